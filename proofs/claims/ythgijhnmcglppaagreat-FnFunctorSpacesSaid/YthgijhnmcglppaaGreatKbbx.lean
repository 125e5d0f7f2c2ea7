/- Several texts in one: R14, R11, R15. -/
import Derived.Test.YthgijhnmcglppaaGreatKwx
import Derived.Test.YthgijhnmcglppaaGreatKbcx
import Derived.Test.YthgijhnmcglppaaGreatKamx
set_option linter.unusedSimpArgs false
set_option linter.unusedVariables false
set_option maxRecDepth 100000
set_option maxHeartbeats 16000000
section
namespace Go.Eng
open Go Go.Proofs Go.Cats
noncomputable def fcL (c d:Cat):List Fun:=dU c d false c.ob.toNat []
def FcY (c d:Cat):Prop:=sX c d∧(fcL c d).length≤8∧(fcA (fcL c d)).length≤40
def mT (A:List (List Int)):List Int:=A.map fun r=>r.getD 0 0
def oP (A:List (List Int)):List Int:=A.map fun r=>r.getD 1 0
theorem aAX (A):(mT A).length=A.length:=by unfold mT;rw [List.length_map]
theorem aFa (A):(oP A).length=A.length:=by unfold oP;rw [List.length_map]
theorem aI8 (A:List (List Int)) (i j:Int) (t:List Int):mT (A++[i::j::t])=mT A++[i]:=by unfold mT;rw [List.map_append];rfl
theorem aI9 (A:List (List Int)) (i j:Int) (t:List Int):oP (A++[i::j::t])=oP A++[j]:=by unfold oP;rw [List.map_append];rfl
theorem aK9:mT []=[]:=rfl
theorem aLa:oP []=[]:=rfl
noncomputable def idsL (A:List (List Int)) (L:List Fun) (i:Nat):List Int:=((List.range i).map fun i=>fnd A (fcI L i))++List.replicate (L.length-i) 0
theorem aJv (A L):idsL A L 0=List.replicate L.length 0:=rfl
theorem aLJ {A L} {i:Nat} (h:i≤L.length):(idsL A L i).length=L.length:=by unfold idsL;rw [List.length_append,List.length_map,List.length_range,List.length_replicate];omega
theorem aLK {A L} {i:Nat} (h:i<L.length):(idsL A L i).set i (fnd A (fcI L i))=idsL A L (i+1):=by
 have e:L.length-i=L.length-(i+1)+1:=by omega
 unfold idsL
 rw [List.set_append_right _ _ (by rw [List.length_map,List.length_range];omega),List.length_map,List.length_range,Nat.sub_self,e,List.replicate_succ,List.set_cons_zero,List.range_succ,List.map_append,List.append_assoc];rfl
theorem aJu (A:List (List Int)) (L:List Fun):idsL A L L.length=(List.range L.length).map fun i=>fnd A (fcI L i):=by unfold idsL;rw [Nat.sub_self,List.replicate_zero,List.append_nil]
theorem aD8 {c d:Cat} {L:List Fun} (h:FL c d L) (hL:L.length≤8) (sd:Shape d):KeyOK (fcA L):=by
 refine⟨fun r hr x hx=>?_,aC8⟩
 have ha:=h.arr hr
 have m:=sd.m40
 rw [ha.eta]at hx
 have i1:=ha.i1
 have j1:=ha.j1
 have i0:=ha.i0
 have j0:=ha.j0
 rcases List.mem_cons.1 hx with rfl|hx
 ·omega
 ·rcases List.mem_cons.1 hx with rfl|hx
  ·omega
  ·have:=(h.comp_d hr).mem hx
   omega
theorem aFH {α:Type} (f:List Int→α) (l:List (List Int)) {k:Nat} (hk:k<l.length):(l.map f).take (k+1)=(l.map f).take k++[f (l.getD k [])]:=by
 rw [List.take_succ_eq_append_getElem (by rw [List.length_map];exact hk),List.getElem_map,List.getD_eq_getElem?_getD,List.getElem?_eq_getElem hk];rfl
theorem aLp {L:List Fun} {i j k:Nat} (hk:k<(gQ (L.getD i default) (L.getD j default)).length):(fcE L i j).take (k+1)=(fcE L i j).take k++[(i:Int)::(j:Int)::(gQ (L.getD i default) (L.getD j default)).getD k []]:=aFH _ _ hk
theorem aTz (d:Cat) (L:List Fun):mT (fcA L)=(fcK d L).fr:=by unfold fcK fcN mT;rw [List.take_length]
theorem aTB (d:Cat) (L:List Fun):oP (fcA L)=(fcK d L).to:=by unfold fcK fcN oP;rw [List.take_length]
theorem aH5 {A:List (List Int)} {a:Nat} (h:a<A.length):(mT A).getD a 0=(A.getD a []).getD 0 0:=by
 unfold mT
 rw [List.getD_eq_getElem?_getD,List.getElem?_map,List.getElem?_eq_getElem h,List.getD_eq_getElem?_getD (l:=A),List.getElem?_eq_getElem h];rfl
theorem aH6 {A:List (List Int)} {a:Nat} (h:a<A.length):(oP A).getD a 0=(A.getD a []).getD 1 0:=by
 unfold oP
 rw [List.getD_eq_getElem?_getD,List.getElem?_map,List.getElem?_eq_getElem h,List.getD_eq_getElem?_getD (l:=A),List.getElem?_eq_getElem h];rfl
theorem aTy (d:Cat) (L:List Fun):jC (mT (fcA L)) (oP (fcA L)) (fun a b=>fnd (fcA L) (fcC d ((fcA L).getD a []) ((fcA L).getD b []))) (fcA L).length=(fcK d L).co:=by
 unfold jC fcK fcN
 rw [aAX]
 refine List.map_congr_left fun i hi=>List.map_congr_left fun j hj=>?_
 unfold aGs
 rw [aH6 (List.mem_range.1 hi),aH5 (List.mem_range.1 hj)]
theorem aQL {c d:Cat} {L:List Fun} (h:FL c d L) (sc:IsCat c) (sd:IsCat d) {a b:Nat} (ha:a<(fcA L).length) (hb:b<(fcA L).length) (hc:((fcA L).getD a []).getD 1 0=((fcA L).getD b []).getD 0 0):TwoA d (fcA L) a b:=by
 have ma:(fcA L).getD a []∈fcA L:=bI ha
 have mb:(fcA L).getD b []∈fcA L:=bI hb
 have la:=(h.arr ma).len
 have lb:=(h.arr mb).len
 have:=sc.toShape.ob8
 exact⟨ha,hb,by omega,by omega,by omega,h.comp_d ma,h.comp_d mb,aId h sc sd ma mb hc⟩
theorem Imp.kill {X:Cx} {σ:Ss} (k:Nat) {j:Nat} (h:lk σ.tm k= .sl j):Imp X σ ⟨(k, .dead)::σ.tm,σ.rs,σ.nx⟩:=by
 rintro w1 U1 dfs a w ⟨hd,hn,c,hp,ht,hpin⟩
 refine⟨hd,hn,c,hp,fun s=>?_,hpin⟩
 show Sv.ok w X.S c (rsL σ.rs) (lk ((k,_)::σ.tm) s) _
 simp only [lk]
 split
 ·simp [Sv.ok]
 ·exact ht s
def FcO (c d:Cat) (r:Sv) (L1:List (Nat×Rs)):Prop:=(FcY c d∧r= .tup [.ptr 0 0, .v (.bool true)]∧L1=[(0,⟨1, .box [iv ((fcL c d).length:Int), .sl 1, .sl 2, .sl 3, .sl 4, .sl 5, .sl 6, .sl 7]⟩),(1,⟨1, .arr (ints (fcK d (fcL c d)).fr)⟩),(2,⟨1, .arr (ints (fcK d (fcL c d)).to)⟩),(3,⟨1, .arr (ints (fcK d (fcL c d)).id)⟩),(4,⟨1, .arr (aF (fcK d (fcL c d)).co)⟩),(5,⟨1, .arr (aS (fcL c d))⟩),(6,⟨1, .arr (aF (fcA (fcL c d)))⟩),(7,⟨1, .arr (mapD Tryz.prog 9 2 (fcA (fcL c d)).length (pm (fcA (fcL c d)) (fcA (fcL c d)).length))⟩)])∨(¬FcY c d∧r= .tup [.v (.pointer none), .v (.bool false)]∧L1=[])
attribute [local go_sem] List.set_cons_zero List.set_cons_succ aK9 aLa aJv qR
theorem iP:aE Tryz.prog 79:=⟨_,Tryz.func79,rfl,rfl⟩
theorem gR {c d:Cat} {r:Sv} {L1:List (Nat×Rs)} (sc:IsCat c) (sd:IsCat d) (bc:CatB c) (bd:CatB d) (ho:FcO c d r L1):Spec Tryz.prog 79 [.bptr [] (aU c), .bptr [] (aU d)] [] r L1:=by
 have hmo:=aBV bc bd sc.toShape sd.toShape
 have hall:=rN (b:=false) (M:=8) sc sd bc bd (by decide)
 rw [aCT (M:=8) _ _ (Nat.zero_le _),List.nil_append,show dU c d false c.ob.toNat []=fcL c d from rfl]at hall
 by_cases hM:sX c d
 ·rw [bH hM]at hmo
  by_cases hL:(fcL c d).length≤8
  ·rw [decide_eq_true hL,List.take_of_length_le (by omega)]at hall
   have hfl:FL c d (fcL c d):=FL.of_funX
   obtain⟨L,hLd⟩:∃L,fcL c d=L:=⟨_,rfl⟩
   rw [hLd]at hall hL hfl
   refine aD (E:=TE) 0 Tryz.func79 rfl (by simp [Tryz.f79]) fun X hn hX=>?_
   repeat'(first|(refine bU 9 (Imp.adoptI 4 1 _ _ rfl rfl rfl (by rw [hX];rfl)) ?_;refine bU 9 (Imp.adoptI 4 2 _ _ rfl rfl rfl (by rw [hX];rfl)) ?_;refine bU 9 (Imp.adoptBs 4 6 _ _ rfl rfl rfl (by rw [hX];rfl)) ?_;simp only [List.set_cons_succ,List.set_cons_zero])|(with_reducible first|refine St.f ?_|refine V_c ?_|refine eDn ?_|refine And.intro ?_ ?_|refine aH ?_ ?_|refine aK ?_)|((refine aN ?_);intro K hK)|((with_reducible refine So.f ?_);intro K hK;simp(contextual:=true)only [go_sem,simprocAttr])|((with_reducible refine hK _ ?_);clear hK K)|((with_reducible refine aC 162 ?_);refine EvCall.mr (hmo) iH [] [] ?_)|((with_reducible refine aC 163 ?_);refine EvCall.mr (hall) gT [(0,2)] [] ?_)|(refine wE (k:=9) (e:=2) (by simp only [go_sem,simprocAttr]) ?_;simp only [go_sem,simprocAttr])|(refine fun(hc:(_:Bool)=_)=>?_;try simp only [hcS]at hc))
   all_goals try exact om_
   refine aG (G:={i:Nat//i≤L.length∧((fcP L i 0).length≤40)}) (fun⟨i,_⟩=>[(44,iv i),(6, .sl 2),(9, .ptr 5 0)]) [3,43] (fun⟨i,_⟩=>[(2,⟨1, .arr (aS L)⟩),(3,⟨1, .arr (mapD Tryz.prog 9 2 (fcP L i 0).length (pm (fcP L i 0) (fcP L i 0).length))⟩),(4,⟨1, .box [iv L.length, .sl 7, .sl 8, .sl 6, .v (.slice none 0 0), .sl 2, .sl 9, .sl 3]⟩),(5,⟨1, .box [.ptr 4 0]⟩),(6,⟨1, .arr (ints (List.replicate L.length 0))⟩),(7,⟨1, .arr (ints (mT (fcP L i 0)))⟩),(8,⟨1, .arr (ints (oP (fcP L i 0)))⟩),(9,⟨1, .arr (aF (fcP L i 0))⟩)]) [2,3,4,5,6,7,8,9] (fun zz=>L.length-zz.1) ⟨0,Nat.zero_le _,(by rw [qR];exact Nat.zero_le _)⟩ ?_ ?_
   ·exact Imp.au hX
   rintro⟨i,hii,hwi⟩
   simp only [go_sem,simprocAttr]
   rcases Nat.lt_or_ge i L.length with hli|hgi
   ·repeat'(first|(with_reducible first|refine St.f ?_|refine V_c ?_|refine eDn ?_|refine And.intro ?_ ?_|refine aH ?_ ?_|refine aK ?_)|((refine aN ?_);intro K hK)|((with_reducible refine So.f ?_);intro K hK;simp(contextual:=true)only [go_sem,simprocAttr])|((with_reducible refine hK _ ?_);clear hK K)|(refine fun(hc:(_:Bool)=_)=>?_;try simp only [hcS]at hc))
    all_goals try exact om_
    refine aG (G:={j:Nat//j≤L.length∧((fcP L i j).length≤40)}) (fun⟨j,_⟩=>[(49,iv j),(6, .sl 2),(9, .ptr 5 0),(10,iv i)]) [3,43,44,48] (fun⟨j,_⟩=>[(2,⟨1, .arr (aS L)⟩),(3,⟨1, .arr (mapD Tryz.prog 9 2 (fcP L i j).length (pm (fcP L i j) (fcP L i j).length))⟩),(4,⟨1, .box [iv L.length, .sl 7, .sl 8, .sl 6, .v (.slice none 0 0), .sl 2, .sl 9, .sl 3]⟩),(5,⟨1, .box [.ptr 4 0]⟩),(6,⟨1, .arr (ints (List.replicate L.length 0))⟩),(7,⟨1, .arr (ints (mT (fcP L i j)))⟩),(8,⟨1, .arr (ints (oP (fcP L i j)))⟩),(9,⟨1, .arr (aF (fcP L i j))⟩)]) [2,3,4,5,6,7,8,9] (fun zz=>L.length-zz.1) ⟨0,Nat.zero_le _,by exact hwi⟩ ?_ ?_
    ·exact Imp.au hX
    rintro⟨j,hij,hwj⟩
    simp only [go_sem,simprocAttr]
    rcases Nat.lt_or_ge j L.length with hlj|hgj
    ·have hpa:=hfl.par sc sd hli hlj
     have hpi:=iK L i hli
     have hpj:=iK L j hlj
     have hna:=tN (M:=40) hpa (by decide)
     rw [aCT (M:=40) _ _ (Nat.zero_le _),List.nil_append]at hna
     have hel:=aD6 (L:=L) (i:=i) (j:=j)
     obtain⟨N,hN⟩:∃N,gQ (L.getD i default) (L.getD j default)=N:=⟨_,rfl⟩
     rw [hN]at hna hel
     have hsu:fcP L i (j+1)=fcP L i j++fcE L i j:=aA8
     have hle:=aGX (L:=L) (i:=i) (j:=j+1) hli (by omega)
     rw [hsu,List.length_append,hel]at hle
     dsimp only at hna
     by_cases h40:N.length≤40
     ·rw [decide_eq_true h40,List.take_of_length_le (by omega)]at hna
      repeat'(first|(refine bU 18 (Imp.trans (Imp.kill 68 rfl) (Imp.kill 70 rfl)) ?_)|(with_reducible first|refine St.f ?_|refine V_c ?_|refine eDn ?_|refine And.intro ?_ ?_|refine aH ?_ ?_|refine aK ?_)|((refine aN ?_);intro K hK)|((with_reducible refine So.f ?_);intro K hK;simp(contextual:=true)only [go_sem,simprocAttr])|((with_reducible refine hK _ ?_);clear hK K)|((with_reducible refine aC 109 ?_);refine EvCall.mk hna kX [(0,10)] [2] (by simp [go_sem]<;>(repeat'(first|rfl|constructor))) (by simp only [List.append_nil,Sv.mtL,Sv.mt,Sv.viewP];exact⟨⟨trivial,by simp, .inr ⟨12,_,_,rfl,hpi⟩⟩,⟨trivial,by simp, .inr ⟨12,_,_,rfl,hpj⟩⟩,rfl,trivial⟩) ?_;all_goals try simp only [go_sem,simprocAttr])|(refine fun(hc:(_:Bool)=_)=>?_;try simp only [hcS]at hc))
      all_goals try exact om_
      ·rcases ho with⟨hy,_,_⟩|⟨_,rfl,rfl⟩
       ·exact absurd hy.2.2 (by rw [hLd];omega)
       ·(first|refine aB ?_|refine aA ?_);simp only [go_sem,simprocAttr,Tryz.f79]
      obtain⟨P,hP⟩:∃P:Nat→List (List Int),∀k,P k=fcP L i j++(fcE L i j).take k:=⟨_,fun _=>rfl⟩
      have hP0:P 0=fcP L i j:=by rw [hP,List.take_zero,List.append_nil]
      have hPn:P N.length=fcP L i (j+1):=by rw [hP,hsu,List.take_of_length_le (by omega)]
      have hPs:∀k,k<N.length→P (k+1)=P k++[(i:Int)::(j:Int)::N.getD k []]:=fun k hk=>by rw [hP,hP,aLp (by rw [hN];exact hk),hN,List.append_assoc]
      have hPl:∀k,k≤N.length→(P k).length≤40:=fun k hk=>by rw [hP,List.length_append,List.length_take];omega
      have hPm:∀k,k<N.length→(i:Int)::(j:Int)::N.getD k []∈fcA L:=fun k hk=>mem_fcA.2 ⟨i,j,_,hli,hlj,by rw [hN];exact bI hk,rfl⟩
      refine aG (G:={k:Nat//k≤N.length∧(True)}) (fun⟨k,_⟩=>[(77,iv k),(75, .sl 10),(6, .sl 2),(9, .ptr 5 0),(10,iv i)]) [3,4,5,11,43,44,48,49,65,66,67,68,69,70,71,72,73,76] (fun⟨k,_⟩=>[(10,⟨1, .arr (aF N)⟩),(2,⟨1, .arr (aS L)⟩),(3,⟨1, .arr (mapD Tryz.prog 9 2 (P k).length (pm (P k) (P k).length))⟩),(4,⟨1, .box [iv L.length, .sl 7, .sl 8, .sl 6, .v (.slice none 0 0), .sl 2, .sl 9, .sl 3]⟩),(5,⟨1, .box [.ptr 4 0]⟩),(6,⟨1, .arr (ints (List.replicate L.length 0))⟩),(7,⟨1, .arr (ints (mT (P k)))⟩),(8,⟨1, .arr (ints (oP (P k)))⟩),(9,⟨1, .arr (aF (P k))⟩)]) [2,3,4,5,6,7,8,9,10] (fun zz=>N.length-zz.1) ⟨0,Nat.zero_le _,by first|trivial|simp⟩ ?_ ?_
      ·exact Imp.auto hX (by simp [go_sem,simprocAttr,hP0])
      rintro⟨k,hik,hwk⟩
      simp only [go_sem,simprocAttr]
      rcases Nat.lt_or_ge k N.length with hlk|hgk
      ·have hm:=hPm k hlk
       have hlen:=(hfl.arr hm).len
       have hpl:=hPl k hik
       have c8:=sc.toShape.ob8
       have hsk:=hPs k hlk
       have l1:(P (k+1)).length=(P k).length+1:=by rw [hsk];simp
       have had:=pF (n:=(L.length:Int)) (L:=L) (F:=mT (P k)) (T:=oP (P k)) (I:=List.replicate L.length 0) (t:=N.getD k []) (A:=P k) (i:=i) (j:=j) (by have:(N.getD k []).length+1+1=c.ob.toNat+2:=hlen;omega) (fun x hx=>(aD8 hfl hL sd.toShape).b _ hm x hx) (by omega) (by rw [aAX];omega) (by rw [aFa];omega)
       rw [←aI8 (P k) i j (N.getD k []),←aI9 (P k) i j (N.getD k []),←hsk,←l1]at had
       repeat'(first|(with_reducible first|refine St.f ?_|refine V_c ?_|refine eDn ?_|refine And.intro ?_ ?_|refine aH ?_ ?_|refine aK ?_)|((refine aN ?_);intro K hK)|((with_reducible refine So.f ?_);intro K hK;simp(contextual:=true)only [go_sem,simprocAttr])|((with_reducible refine hK _ ?_);clear hK K)|((with_reducible refine aC 177 ?_);refine EvCall.mr (had) nF [(0,4),(1,7),(2,8),(3,6),(4,2),(5,9),(6,3),(7,11),(8,12),(9,13)] [10] ?_)|(refine fun(hc:(_:Bool)=_)=>?_;try simp only [hcS]at hc))
       all_goals try exact om_
       ·refine⟨⟨k+1,by omega,(by trivial)⟩,by simp only;omega,Imp.ao hX⟩
      ·have ek:k=N.length:=by omega
       subst ek
       rw [hPn]
       repeat'(first|(with_reducible first|refine St.f ?_|refine V_c ?_|refine eDn ?_|refine And.intro ?_ ?_|refine aH ?_ ?_|refine aK ?_)|((refine aN ?_);intro K hK)|((with_reducible refine So.f ?_);intro K hK;simp(contextual:=true)only [go_sem,simprocAttr])|((with_reducible refine hK _ ?_);clear hK K)|(refine fun(hc:(_:Bool)=_)=>?_;try simp only [hcS]at hc))
       all_goals try exact om_
       ·refine⟨⟨j+1,by omega,(by(rw [←hPn];exact hPl _ (Nat.le_refl _)))⟩,by simp only;omega,Imp.ao hX⟩
     ·rw [decide_eq_false h40]at hna
      repeat'(first|(with_reducible first|refine St.f ?_|refine V_c ?_|refine eDn ?_|refine And.intro ?_ ?_|refine aH ?_ ?_|refine aK ?_)|((refine aN ?_);intro K hK)|((with_reducible refine So.f ?_);intro K hK;simp(contextual:=true)only [go_sem,simprocAttr])|((with_reducible refine hK _ ?_);clear hK K)|((with_reducible refine aC 109 ?_);refine EvCall.mk hna kX [(0,10)] [2] (by simp [go_sem]<;>(repeat'(first|rfl|constructor))) (by simp only [List.append_nil,Sv.mtL,Sv.mt,Sv.viewP];exact⟨⟨trivial,by simp, .inr ⟨12,_,_,rfl,hpi⟩⟩,⟨trivial,by simp, .inr ⟨12,_,_,rfl,hpj⟩⟩,rfl,trivial⟩) ?_;all_goals try simp only [go_sem,simprocAttr])|(refine fun(hc:(_:Bool)=_)=>?_;try simp only [hcS]at hc))
      all_goals try exact om_
      ·rcases ho with⟨hy,_,_⟩|⟨_,rfl,rfl⟩
       ·exact absurd hy.2.2 (by rw [hLd];omega)
       ·(first|refine aB ?_|refine aA ?_);simp only [go_sem,simprocAttr,Tryz.f79]
    ·have ej:j=L.length:=by omega
     subst ej
     rw [aFm]at hwj⊢
     repeat'(first|(with_reducible first|refine St.f ?_|refine V_c ?_|refine eDn ?_|refine And.intro ?_ ?_|refine aH ?_ ?_|refine aK ?_)|((refine aN ?_);intro K hK)|((with_reducible refine So.f ?_);intro K hK;simp(contextual:=true)only [go_sem,simprocAttr])|((with_reducible refine hK _ ?_);clear hK K)|(refine fun(hc:(_:Bool)=_)=>?_;try simp only [hcS]at hc))
     all_goals try exact om_
     ·refine⟨⟨i+1,by omega,(by exact hwj)⟩,by simp only;omega,Imp.ao hX⟩
   ·have ei:i=L.length:=by omega
    subst ei
    rw [show fcP L L.length 0=fcA L from rfl]at hwi⊢
    repeat'(first|(with_reducible first|refine St.f ?_|refine V_c ?_|refine eDn ?_|refine And.intro ?_ ?_|refine aH ?_ ?_|refine aK ?_)|((refine aN ?_);intro K hK)|((with_reducible refine So.f ?_);intro K hK;simp(contextual:=true)only [go_sem,simprocAttr])|((with_reducible refine hK _ ?_);clear hK K)|(refine fun(hc:(_:Bool)=_)=>?_;try simp only [hcS]at hc))
    all_goals try exact om_
    have hk:=aD8 hfl hL sd.toShape
    have d8:=sd.toShape.ob8
    have dil:=sd.toShape.idl
    refine aG (G:={x:Nat//x≤L.length∧(True)}) (fun⟨x,_⟩=>[(91,iv x),(6, .sl 2),(9, .ptr 5 0)]) [3,4,5,90] (fun⟨x,_⟩=>[(2,⟨1, .arr (aS L)⟩),(3,⟨1, .arr (mapD Tryz.prog 9 2 (fcA L).length (pm (fcA L) (fcA L).length))⟩),(4,⟨1, .box [iv L.length, .sl 7, .sl 8, .sl 6, .v (.slice none 0 0), .sl 2, .sl 9, .sl 3]⟩),(5,⟨1, .box [.ptr 4 0]⟩),(6,⟨1, .arr (ints (idsL (fcA L) L x))⟩),(7,⟨1, .arr (ints (mT (fcA L)))⟩),(8,⟨1, .arr (ints (oP (fcA L)))⟩),(9,⟨1, .arr (aF (fcA L))⟩)]) [2,3,4,5,6,7,8,9] (fun zz=>L.length-zz.1) ⟨0,Nat.zero_le _,by first|trivial|simp⟩ ?_ ?_
    ·exact Imp.au hX
    rintro⟨x,hix,hwx⟩
    simp only [go_sem,simprocAttr]
    rcases Nat.lt_or_ge x L.length with hlx|hgx
    ·have hm:=aD7 hfl sc sd hlx
     have hlen:=(hfl.arr hm).len
     have c8:=sc.toShape.ob8
     obtain⟨f1,f2,f3⟩:=hfl x hlx
     have fol:=f3.obl
     rw [f1]at fol
     have fow:=f3.obw
     rw [f2]at fow
     have hth:=aED (f:=(L.getD x default).obs) (g:=d.id) (by omega) (by omega) (fun i hi=>by have:=fow i hi;omega)
     rw [show thn (L.getD x default).obs d.id=fQ (L.getD x default) from by rw [aGx f2];rfl]at hth
     have hul:(fQ (L.getD x default)).length+1+1=c.ob.toNat+2:=hlen
     have har:=dZ (a0:= .v (.int .i64 L.length)) (a1:=ints (mT (fcA L))) (a2:=ints (oP (fcA L))) (a3:=ints (idsL (fcA L) L x)) (a4:= .v (.slice none 0 0)) (a5:=aS L) (a6:=aF (fcA L)) hk hm (by omega)
     have hil:=aLJ (A:=fcA L) (L:=L) (i:=x) (by omega)
     have his:(idsL (fcA L) L x).set x (fnd (fcA L) ((x:Int)::(x:Int)::fQ (L.getD x default)))=idsL (fcA L) L (x+1):=aLK hlx
     have hfo:(aS L).at (x*12+10)=ints (L.getD x default).obs:=aIg L x 10 hlx (by decide)
     repeat'(first|(rw [hfo];simp only [go_sem,simprocAttr])|(with_reducible first|refine St.f ?_|refine V_c ?_|refine eDn ?_|refine And.intro ?_ ?_|refine aH ?_ ?_|refine aK ?_)|((refine aN ?_);intro K hK)|((with_reducible refine So.f ?_);intro K hK;simp(contextual:=true)only [go_sem,simprocAttr])|((with_reducible refine hK _ ?_);clear hK K)|((with_reducible refine aC 178 ?_);refine EvCall.mr (hth) aAW [(0,10)] [2] ?_)|((with_reducible refine aC 83 ?_);refine EvCall.mr (har) dO [] [4,7,8,6,2,9,3,10] ?_)|(refine fun(hc:(_:Bool)=_)=>?_;try simp only [hcS]at hc))
     all_goals try exact om_
     ·refine⟨⟨x+1,by omega,(by trivial)⟩,by simp only;omega,Imp.auto hX (by simp only [go_sem,simprocAttr,his])⟩
    ·have ex:x=L.length:=by omega
     subst ex
     have c0l:=aAX (fcA L)
     have c1l:=aFa (fcA L)
     have htb:=rJ (ob:=(L.length:Int)) (fr:=mT (fcA L)) (to:=oP (fcA L)) (id:=idsL (fcA L) L L.length) (d:=d) (L:=L) (A:=fcA L) (h:=fun a b=>fnd (fcA L) (fcC d ((fcA L).getD a []) ((fcA L).getD b []))) (fun a b ha hb hc=>aCz sd.toShape hk (by omega) (aQL hfl sc sd (by omega) (by omega) (by rw [aH6 (by omega),aH5 (by omega)]at hc;exact hc))) (by omega) (by omega) (by omega)
     rw [show jC (mT (fcA L)) (oP (fcA L)) (fun a b=>fnd (fcA L) (fcC d ((fcA L).getD a []) ((fcA L).getD b []))) (mT (fcA L)).length=(fcK d L).co from by rw [c0l];exact aTy d L]at htb
     repeat'(first|(with_reducible first|refine St.f ?_|refine V_c ?_|refine eDn ?_|refine And.intro ?_ ?_|refine aH ?_ ?_|refine aK ?_)|((refine aN ?_);intro K hK)|((with_reducible refine So.f ?_);intro K hK;simp(contextual:=true)only [go_sem,simprocAttr])|((with_reducible refine hK _ ?_);clear hK K)|((with_reducible refine aC 179 ?_);refine EvCall.mr (htb) tS [(0,4),(1,7),(2,8),(3,6),(4,2),(5,9),(6,3),(7,5),(8,0),(9,10)] [] ?_)|(refine fun(hc:(_:Bool)=_)=>?_;try simp only [hcS]at hc))
     all_goals try exact om_
     rcases ho with⟨_,rfl,rfl⟩|⟨hno,_,_⟩
     ·have q1:=aTz d L
      have q2:=aTB d L
      have q3:idsL (fcA L) L L.length=(fcK d L).id:=aJu _ _
      (first|refine aB ?_|refine aA ?_);simp only [go_sem,simprocAttr,Tryz.f79]
      rw [hLd,q1,q2,q3];exact⟨rfl,rfl,rfl,rfl,rfl,rfl,rfl,rfl⟩
     ·exact absurd ⟨hM,by rw [hLd];exact hL,by rw [hLd];exact hwi⟩ hno
  ·rw [decide_eq_false hL]at hall
   refine aD (E:=TE) 0 Tryz.func79 rfl (by simp [Tryz.f79]) fun X hn hX=>?_
   repeat'(first|(with_reducible first|refine St.f ?_|refine V_c ?_|refine eDn ?_|refine And.intro ?_ ?_|refine aH ?_ ?_|refine aK ?_)|((refine aN ?_);intro K hK)|((with_reducible refine So.f ?_);intro K hK;simp(contextual:=true)only [go_sem,simprocAttr])|((with_reducible refine hK _ ?_);clear hK K)|((with_reducible refine aC 162 ?_);refine EvCall.mr (hmo) iH [] [] ?_)|((with_reducible refine aC 163 ?_);refine EvCall.mr (hall) gT [(0,2)] [] ?_)|(refine fun(hc:(_:Bool)=_)=>?_;try simp only [hcS]at hc))
   all_goals try exact om_
   ·rcases ho with⟨hy,_,_⟩|⟨_,rfl,rfl⟩
    ·exact absurd hy.2.1 hL
    ·(first|refine aB ?_|refine aA ?_);simp only [go_sem,simprocAttr,Tryz.f79]
 ·rw [eD hM]at hmo
  refine aD (E:=TE) 0 Tryz.func79 rfl (by simp [Tryz.f79]) fun X hn hX=>?_
  repeat'(first|(with_reducible first|refine St.f ?_|refine V_c ?_|refine eDn ?_|refine And.intro ?_ ?_|refine aH ?_ ?_|refine aK ?_)|((refine aN ?_);intro K hK)|((with_reducible refine So.f ?_);intro K hK;simp(contextual:=true)only [go_sem,simprocAttr])|((with_reducible refine hK _ ?_);clear hK K)|((with_reducible refine aC 162 ?_);refine EvCall.mr (hmo) iH [] [] ?_)|(refine fun(hc:(_:Bool)=_)=>?_;try simp only [hcS]at hc))
  all_goals try exact om_
  ·rcases ho with⟨hy,_,_⟩|⟨_,rfl,rfl⟩
   ·exact absurd hy.1 hM
   ·(first|refine aB ?_|refine aA ?_);simp only [go_sem,simprocAttr,Tryz.f79]
end Go.Eng
end
section
namespace Go.Eng
open Go Go.Proofs Go.Cats
theorem aD0:aE Tryz.prog 192:=⟨_,Tryz.func192,rfl,rfl⟩
theorem aGc {l:List (List Int)} {r:List Int} (hl:l.length≤1048576) (hr:r.length≤1048576) (hk:∀i,i<l.length→(l.getD i []).length≤1048576):Spec Tryz.prog 192 [.bor [] (aF l), .bor [] (ints r)] [] (iv (fnd l r)) []:=by
 refine aD (E:=TE) 0 Tryz.func192 rfl (by simp [Tryz.f192]) fun X hn hX=>?_
 repeat'(first|refine wkQ ?_|refine Tw.f ?_ ?_|(refine fun(hc:(_:Bool)=_)=>?_;try simp only [hcS]at hc))
 all_goals try exact om_
 refine aG (G:={i:Nat//i≤l.length∧(bJ i (aEb l r)=none)}) (fun⟨i,_⟩=>[(5,iv i)]) [0,1] (fun⟨i,_⟩=>[]) [] (fun zz=>l.length-zz.1) ⟨0,Nat.zero_le _,by rfl⟩ ?_ ?_
 ·exact Imp.au hX
 rintro⟨i,hii,hwi⟩
 simp only [go_sem,simprocAttr]
 have hki:=hk i
 repeat'(first|refine wkQ ?_|refine Tw.f ?_ ?_|(refine kcQ iE ?_;refine krQ (pG ?_ ?_) ?_)|(refine fun(hc:(_:Bool)=_)=>?_;try simp only [hcS]at hc))
 all_goals try exact om_
 ·(first|refine aB ?_|refine aA ?_);simp only [go_sem,simprocAttr,Tryz.f192]
  rw [aOs hwi (by omega) hc]
 ·refine⟨⟨i+1,by omega,(by exact cM hwi (aQM hc))⟩,by simp only;omega,Imp.ao hX⟩
 ·(first|refine aB ?_|refine aA ?_);simp only [go_sem,simprocAttr,Tryz.f192]
  rw [aLv (by rw [show l.length=i by omega];exact hwi)]
theorem oK:aE Tryz.prog 89:=⟨_,Tryz.func89,rfl,rfl⟩
theorem rU {ob i j:Int} {fr to id p:List Int} {co L:List (List Int)} {F:List Fun} (hL:L.length≤1048576) (hr:∀i,i<L.length→(L.getD i []).length≤1048576) (hp:p.length≤4096):Spec Tryz.prog 89 [.agg [iv ob, .bor [] (ints fr), .bor [] (ints to), .bor [] (ints id), .bor [] (aF co), .bor [] (aS F), .bor [] (aF L)],iv i,iv j, .bor [] (ints p)] [] (iv (fnd L (i::j::p))) []:=by
 refine aD (E:=TE) 0 Tryz.func89 rfl (by simp [Tryz.f89]) fun X hn hX=>?_
 have hpl:=aGc (l:=L) (r:=i::j::p) hL (by simp;omega) hr
 repeat'(first|refine wkQ ?_|refine Tw.f ?_ ?_|(refine kcQ aD0 ?_;refine kwQ (hpl) [] [2] ?_)|(refine fun(hc:(_:Bool)=_)=>?_;try simp only [hcS]at hc))
 all_goals try exact om_
 ·(first|refine aB ?_|refine aA ?_);simp only [go_sem,simprocAttr,Tryz.f89]
theorem aE4:aE Tryz.prog 190:=⟨_,Tryz.func190,rfl,rfl⟩
theorem aHD {f:Fun} (sc:Shape f.src) (sd:Shape f.tgt) (hf:Fits f):Spec Tryz.prog 190 [qS f] [] (.sl 0) [(0,⟨1, .arr (ints (fQ f))⟩)]:=by
 refine aD (E:=TE) 0 Tryz.func190 rfl (by simp [Tryz.f190]) fun X hn hX=>?_
 have h1:=hf.obl
 have h2:=hf.obw
 have h3:=sc.ob8
 have h4:=sd.ob8
 have h5:=sd.idl
 have hth:=aHz (f:=f.obs) (g:=f.tgt.id) (by omega) (by omega) (fun i hi=>by have:=h2 i hi;omega)
 rw [show thn f.obs f.tgt.id=fQ f from rfl]at hth
 repeat'(first|refine wkQ ?_|refine Tw.f ?_ ?_|(refine kcQ aE0 ?_;refine kwQ (hth) [(0,2)] [] ?_)|(refine fun(hc:(_:Bool)=_)=>?_;try simp only [hcS]at hc))
 all_goals try exact om_
 ·(first|refine aB ?_|refine aA ?_);simp only [go_sem,simprocAttr,Tryz.f190]
theorem aI7 (d:Cat) (s t:List Int):(cmpL d s t).take 0=[]:=List.take_zero
theorem aK8 {d:Cat} {s t:List Int} {x:Nat} (hx:x<s.length):(cmpL d s t).take (x+1)=(cmpL d s t).take x++[d.C (s.getD x 0) (t.getD x 0)]:=by
 rw [List.take_succ_eq_append_getElem (by rw [bS];exact hx),←gK hx,List.getD_eq_getElem?_getD,List.getElem?_eq_getElem (by rw [bS];exact hx)];rfl
attribute [local go_sem] aI7
theorem aE5:aE Tryz.prog 191:=⟨_,Tryz.func191,rfl,rfl⟩
theorem aHE {d:Cat} {s t:List Int} (sd:Shape d) (hs:Within s d.fr.length) (ht:Within t d.fr.length) (hl:s.length≤4096) (hst:t.length=s.length):Spec Tryz.prog 191 [bK d, .bor [] (ints s), .bor [] (ints t)] [] (.sl 0) [(0,⟨1, .arr (ints (cmpL d s t))⟩)]:=by
 refine aD (E:=TE) 0 Tryz.func191 rfl (by simp [Tryz.f191]) fun X hn hX=>?_
 have col:=sd.col
 have m40:=sd.m40
 repeat'(first|refine wkQ ?_|refine Tw.f ?_ ?_|(refine fun(hc:(_:Bool)=_)=>?_;try simp only [hcS]at hc))
 all_goals try exact om_
 refine aG (G:={x:Nat//x≤s.length∧(True)}) (fun⟨x,_⟩=>[(8,iv x),(7, .sl 1)]) [1,2,3,6] (fun⟨x,_⟩=>[(1,⟨1, .arr (ints ((cmpL d s t).take x))⟩)]) [1] (fun zz=>s.length-zz.1) ⟨0,Nat.zero_le _,by first|trivial|simp⟩ ?_ ?_
 ·exact Imp.au hX
 rintro⟨x,hix,hwx⟩
 simp only [go_sem,simprocAttr]
 have hcl:((cmpL d s t).take x).length≤x:=by rw [List.length_take];omega
 rcases Nat.lt_or_ge x s.length with hlt|hge
 ·have h1:=hs x hlt
  have h2:=ht x (by omega)
  have r1:=nT sd h1.1 h1.2
  have e1:=aK8 (d:=d) (t:=t) hlt
  repeat'(first|refine wkQ ?_|refine Tw.f ?_ ?_|(refine fun(hc:(_:Bool)=_)=>?_;try simp only [hcS]at hc))
  all_goals try exact om_
  ·refine⟨⟨x+1,by omega,(by trivial)⟩,by simp only;omega,Imp.auto hX (by simp only [go_sem,simprocAttr,e1])⟩
 ·have ex:(cmpL d s t).take x=cmpL d s t:=by rw [List.take_of_length_le (by rw [bS];exact hge)]
  repeat'(first|refine wkQ ?_|refine Tw.f ?_ ?_|(refine fun(hc:(_:Bool)=_)=>?_;try simp only [hcS]at hc))
  all_goals try exact om_
  ·(first|refine aB ?_|refine aA ?_);simp only [go_sem,simprocAttr,Tryz.f191]
   rw [ex]
end Go.Eng
end
section
namespace Go.Eng
open Go Go.Proofs Go.Cats
noncomputable def cL (d:Cat) (A:List (List Int)) (a b:Nat):List Int:=(List.range b).map fun b=>if(A.getD a []).getD 1 0=(A.getD b []).getD 0 0 then fnd A (fcC d (A.getD a []) (A.getD b []))else-1
noncomputable def wY (d:Cat) (A:List (List Int)) (a:Nat):List (List Int):=(List.range a).map fun a=>cL d A a A.length
theorem nS (d A a):cL d A a 0=[]:=rfl
theorem aHr (d A):wY d A 0=[]:=rfl
theorem aF1 {d A a b}:(cL d A a b).length=b:=by unfold cL;rw [List.length_map,List.length_range]
theorem aJ3 {d A a}:(wY d A a).length=a:=by unfold wY;rw [List.length_map,List.length_range]
theorem aM0 {d:Cat} {A:List (List Int)} {a b:Nat} (h:(A.getD a []).getD 1 0=(A.getD b []).getD 0 0):cL d A a (b+1)=cL d A a b++[fnd A (fcC d (A.getD a []) (A.getD b []))]:=by
 unfold cL;rw [List.range_succ,List.map_append,List.map_singleton,if_pos h]
theorem wX {d:Cat} {A:List (List Int)} {a b:Nat} (h:¬(A.getD a []).getD 1 0=(A.getD b []).getD 0 0):cL d A a (b+1)=cL d A a b++[-1]:=by
 unfold cL;rw [List.range_succ,List.map_append,List.map_singleton,if_neg h]
theorem aHq {d:Cat} {A:List (List Int)} {a:Nat}:wY d A (a+1)=wY d A a++[cL d A a A.length]:=by
 unfold wY;rw [List.range_succ,List.map_append,List.map_singleton]
noncomputable def idF (A:List (List Int)) (L:List Fun) (i:Nat):List Int:=(List.range i).map fun i=>fnd A (fcI L i)
theorem aLI (A L):idF A L 0=[]:=rfl
theorem aOB {A L i}:(idF A L i).length=i:=by unfold idF;rw [List.length_map,List.length_range]
theorem aLH {A:List (List Int)} {L:List Fun} {i:Nat}:idF A L (i+1)=idF A L i++[fnd A (fcI L i)]:=by
 unfold idF;rw [List.range_succ,List.map_append,List.map_singleton]
theorem aE7 {A:List (List Int)} {h:List Int→Int} {a:Nat} (ha:a<A.length):(A.take (a+1)).map h=(A.take a).map h++[h (A.getD a [])]:=by
 rw [List.take_succ_eq_append_getElem ha,List.map_append,List.map_singleton,List.getD_eq_getElem?_getD,List.getElem?_eq_getElem ha];rfl
theorem aK2 {A:List (List Int)} {h:List Int→Int}:(A.take 0).map h=[]:=rfl
def FcR (c d:Cat) (r:Sv) (L1:List (Nat×Rs)):Prop:=(FcY c d∧r= .tup [.agg [iv ((fcL c d).length:Int), .sl 0, .sl 1, .sl 2, .sl 3, .sl 4, .sl 5],iv 0]∧L1=[(0,⟨1, .arr (ints (fcK d (fcL c d)).fr)⟩),(1,⟨1, .arr (ints (fcK d (fcL c d)).to)⟩),(2,⟨1, .arr (ints (fcK d (fcL c d)).id)⟩),(3,⟨1, .arr (aF (fcK d (fcL c d)).co)⟩),(4,⟨1, .arr (aS (fcL c d))⟩),(5,⟨1, .arr (aF (fcA (fcL c d)))⟩)])∨(¬FcY c d∧r= .tup [.agg [iv 0, .v (.slice none 0 0), .v (.slice none 0 0), .v (.slice none 0 0), .v (.slice none 0 0), .v (.slice none 0 0), .v (.slice none 0 0)],iv 3]∧L1=[])
attribute [local go_sem] List.set_cons_zero List.set_cons_succ nS aHr aLI qR aK2
theorem iG:aE Tryz.prog 86:=⟨_,Tryz.func86,rfl,rfl⟩
theorem gM {c d:Cat} {r:Sv} {L1:List (Nat×Rs)} (sc:IsCat c) (sd:IsCat d) (bc:CatB c) (bd:CatB d) (ho:FcR c d r L1):Spec Tryz.prog 86 [bK c,bK d] [] r L1:=by
 have hsm:=aGd sc.toShape sd.toShape
 have hall:=aKm sc sd bc bd
 rw [show aQO c d=(fcL c d).take 201 from rfl]at hall
 by_cases hM:sX c d
 ·rw [bH hM]at hsm
  by_cases hL:(fcL c d).length≤8
  ·rw [List.take_of_length_le (by omega)]at hall
   have hfl:FL c d (fcL c d):=FL.of_funX
   obtain⟨L,hLd⟩:∃L,fcL c d=L:=⟨_,rfl⟩
   rw [hLd]at hall hL hfl
   refine aD (E:=TE) 0 Tryz.func86 rfl (by simp [Tryz.f86]) fun X hn hX=>?_
   have hpart:∀i,i<L.length→(aS L).part (i*12) 12=[.v (.int .i64 (L.getD i default).src.ob),ints (L.getD i default).src.fr,ints (L.getD i default).src.to,ints (L.getD i default).src.id,aF (L.getD i default).src.co, .v (.int .i64 (L.getD i default).tgt.ob),ints (L.getD i default).tgt.fr,ints (L.getD i default).tgt.to,ints (L.getD i default).tgt.id,aF (L.getD i default).tgt.co,ints (L.getD i default).obs,ints (L.getD i default).ars]:=fun i hi=>iK L i hi
   have c8:=sc.toShape.ob8
   repeat'(first|(refine bU 6 (Imp.adoptBs 4 6 _ _ rfl rfl rfl (by rw [hX];rfl)) ?_;simp only [List.set_cons_succ,List.set_cons_zero])|(with_reducible first|refine St.f ?_|refine V_c ?_|refine eDn ?_|refine And.intro ?_ ?_|refine aH ?_ ?_|refine aK ?_)|((refine aN ?_);intro K hK)|((with_reducible refine So.f ?_);intro K hK;simp(contextual:=true)only [go_sem,simprocAttr])|((with_reducible refine hK _ ?_);clear hK K)|((with_reducible refine aC 187 ?_);refine EvCall.mr (hsm) oJ [] [] ?_)|((with_reducible refine aC 188 ?_);refine EvCall.mr (hall) aAV [(0,3)] [] ?_)|(refine fun(hc:(_:Bool)=_)=>?_;try simp only [hcS]at hc))
   all_goals try exact om_
   refine aG (G:={i:Nat//i≤L.length∧((fcP L i 0).length≤40)}) (fun⟨i,_⟩=>[(7,iv i),(2, .ptr 0 0),(6, .ptr 4 0)]) [3,4] (fun⟨i,_⟩=>[(3,⟨1, .arr (aS L)⟩),(4,⟨1, .box [iv 0, .v (.slice none 0 0), .v (.slice none 0 0), .v (.slice none 0 0), .v (.slice none 0 0), .sl 3, .sl 5]⟩),(5,⟨1, .arr (aF (fcP L i 0))⟩)]) [3,4,5] (fun zz=>L.length-zz.1) ⟨0,Nat.zero_le _,(by rw [qR];exact Nat.zero_le _)⟩ ?_ ?_
   ·exact Imp.au hX
   rintro⟨i,hii,hwi⟩
   simp only [go_sem,simprocAttr]
   rcases Nat.lt_or_ge i L.length with hli|hgi
   ·have hpi:=hpart i hli
    repeat'(first|(with_reducible first|refine St.f ?_|refine V_c ?_|refine eDn ?_|refine And.intro ?_ ?_|refine aH ?_ ?_|refine aK ?_)|((refine aN ?_);intro K hK)|((with_reducible refine So.f ?_);intro K hK;simp(contextual:=true)only [go_sem,simprocAttr])|((with_reducible refine hK _ ?_);clear hK K)|(refine fun(hc:(_:Bool)=_)=>?_;try simp only [hcS]at hc))
    all_goals try exact om_
    refine aG (G:={j:Nat//j≤L.length∧((fcP L i j).length≤40)}) (fun⟨j,_⟩=>[(8,iv j),(2, .ptr 0 0),(6, .ptr 4 0),(7,iv i)]) [3,4] (fun⟨j,_⟩=>[(3,⟨1, .arr (aS L)⟩),(4,⟨1, .box [iv 0, .v (.slice none 0 0), .v (.slice none 0 0), .v (.slice none 0 0), .v (.slice none 0 0), .sl 3, .sl 5]⟩),(5,⟨1, .arr (aF (fcP L i j))⟩)]) [3,4,5] (fun zz=>L.length-zz.1) ⟨0,Nat.zero_le _,by exact hwi⟩ ?_ ?_
    ·exact Imp.au hX
    rintro⟨j,hij,hwj⟩
    simp only [go_sem,simprocAttr]
    rcases Nat.lt_or_ge j L.length with hlj|hgj
    ·have hpa:=hfl.par sc sd hli hlj
     have hpj:=hpart j hlj
     have hna:=aKn (m:=41) hpa (by decide) (by decide)
     have hel:=aD6 (L:=L) (i:=i) (j:=j)
     obtain⟨N,hN⟩:∃N,gQ (L.getD i default) (L.getD j default)=N:=⟨_,rfl⟩
     rw [hN]at hna hel
     have hsu:fcP L i (j+1)=fcP L i j++fcE L i j:=aA8
     have hle:=aGX (L:=L) (i:=i) (j:=j+1) hli (by omega)
     have hfe:fcE L i j=N.map fun t=>(i:Int)::(j:Int)::t:=by unfold fcE;rw [hN]
     obtain⟨M,hM2⟩:∃M,N.take 41=M:=⟨_,rfl⟩
     have hMl:M.length=min 41 N.length:=by rw [←hM2,List.length_take]
     have hMr:∀k,k<M.length→(M.getD k []).length≤8:=fun k hk=>by
      have hm:M.getD k []∈N:=by rw [←hM2]at hk⊢;exact List.mem_of_mem_take (bI hk)
      rw [←hN]at hm
      have:=(mem_natA.1 hm).1
      rw [(hfl i hli).1]at this
      omega
     rw [hM2]at hna
     obtain⟨P,hP⟩:∃P:Nat→List (List Int),∀k,P k=fcP L i j++(M.map fun t=>(i:Int)::(j:Int)::t).take k:=⟨_,fun _=>rfl⟩
     have hP0:P 0=fcP L i j:=by rw [hP,List.take_zero,List.append_nil]
     have hPs:∀k,k<M.length→P (k+1)=P k++[(i:Int)::(j:Int)::M.getD k []]:=fun k hk=>by rw [hP,hP,aFH _ _ hk,List.append_assoc]
     have hPl:∀k,k≤M.length→(P k).length=(fcP L i j).length+k:=fun k hk=>by rw [hP,List.length_append,List.length_take,List.length_map];omega
     have hPn:N.length≤41→P M.length=fcP L i (j+1):=fun h=>by
      have e:M=N:=by rw [←hM2,List.take_of_length_le h]
      rw [hP,List.take_of_length_le (by rw [List.length_map];exact Nat.le_refl _),hsu,hfe,e]
     rw [hsu,List.length_append,hel]at hle
     repeat'(first|(rw [hpi];simp only [go_sem,simprocAttr])|(rw [hpj];simp only [go_sem,simprocAttr])|(with_reducible first|refine St.f ?_|refine V_c ?_|refine eDn ?_|refine And.intro ?_ ?_|refine aH ?_ ?_|refine aK ?_)|((refine aN ?_);intro K hK)|((with_reducible refine So.f ?_);intro K hK;simp(contextual:=true)only [go_sem,simprocAttr])|((with_reducible refine hK _ ?_);clear hK K)|((with_reducible refine aC 189 ?_);refine EvCall.mr (hna) aGN [(0,6)] [3] ?_)|(refine fun(hc:(_:Bool)=_)=>?_;try simp only [hcS]at hc))
     all_goals try exact om_
     refine aG (G:={k:Nat//k≤M.length∧(True)}) (fun⟨k,_⟩=>[(10,iv k),(2, .ptr 0 0),(6, .ptr 4 0),(7,iv i),(8,iv j),(9, .sl 6)]) [3,4,5] (fun⟨k,_⟩=>[(3,⟨1, .arr (aS L)⟩),(4,⟨1, .box [iv 0, .v (.slice none 0 0), .v (.slice none 0 0), .v (.slice none 0 0), .v (.slice none 0 0), .sl 3, .sl 5]⟩),(5,⟨1, .arr (aF (P k))⟩),(6,⟨1, .arr (aF M)⟩)]) [3,4,5,6] (fun zz=>M.length-zz.1) ⟨0,Nat.zero_le _,by first|trivial|simp⟩ ?_ ?_
     ·exact Imp.auto hX (by simp [go_sem,simprocAttr,hP0])
     rintro⟨k,hik,hwk⟩
     simp only [go_sem,simprocAttr]
     have hpl:=hPl k hik
     rcases Nat.lt_or_ge k M.length with hlk|hgk
     ·have hsk:=hPs k hlk
      have hrk:=hMr k hlk
      repeat'(first|(with_reducible first|refine St.f ?_|refine V_c ?_|refine eDn ?_|refine And.intro ?_ ?_|refine aH ?_ ?_|refine aK ?_)|((refine aN ?_);intro K hK)|((with_reducible refine So.f ?_);intro K hK;simp(contextual:=true)only [go_sem,simprocAttr])|((with_reducible refine hK _ ?_);clear hK K)|(refine fun(hc:(_:Bool)=_)=>?_;try simp only [hcS]at hc))
      all_goals try exact om_
      ·refine⟨⟨k+1,by omega,(by trivial)⟩,by simp only;omega,Imp.auto hX (by simp only [go_sem,simprocAttr,←hsk])⟩
     ·have ek:k=M.length:=by omega
      subst ek
      repeat'(first|(with_reducible first|refine St.f ?_|refine V_c ?_|refine eDn ?_|refine And.intro ?_ ?_|refine aH ?_ ?_|refine aK ?_)|((refine aN ?_);intro K hK)|((with_reducible refine So.f ?_);intro K hK;simp(contextual:=true)only [go_sem,simprocAttr])|((with_reducible refine hK _ ?_);clear hK K)|(refine fun(hc:(_:Bool)=_)=>?_;try simp only [hcS]at hc))
      all_goals try exact om_
      ·rcases ho with⟨hy,_,_⟩|⟨_,rfl,rfl⟩
       ·exact absurd hy.2.2 (by rw [hLd];omega)
       ·(first|refine aB ?_|refine aA ?_);simp only [go_sem,simprocAttr,Tryz.f86]
      ·have hpn:=hPn (by omega)
       refine⟨⟨j+1,by omega,(by(rw [←hpn];omega))⟩,by simp only;omega,Imp.auto hX (by simp only [go_sem,simprocAttr,hpn])⟩
    ·have ej:j=L.length:=by omega
     subst ej
     rw [aFm]at hwj⊢
     repeat'(first|(with_reducible first|refine St.f ?_|refine V_c ?_|refine eDn ?_|refine And.intro ?_ ?_|refine aH ?_ ?_|refine aK ?_)|((refine aN ?_);intro K hK)|((with_reducible refine So.f ?_);intro K hK;simp(contextual:=true)only [go_sem,simprocAttr])|((with_reducible refine hK _ ?_);clear hK K)|(refine fun(hc:(_:Bool)=_)=>?_;try simp only [hcS]at hc))
     all_goals try exact om_
     ·refine⟨⟨i+1,by omega,(by exact hwj)⟩,by simp only;omega,Imp.ao hX⟩
   ·have ei:i=L.length:=by omega
    subst ei
    rw [show fcP L L.length 0=fcA L from rfl]at hwi⊢
    repeat'(first|(refine bU 20 (Imp.adoptI 4 3 _ _ rfl rfl rfl (by rw [hX];rfl)) ?_;refine bU 20 (Imp.adoptI 4 1 _ _ rfl rfl rfl (by rw [hX];rfl)) ?_;refine bU 20 (Imp.adoptI 4 2 _ _ rfl rfl rfl (by rw [hX];rfl)) ?_;refine bU 20 (Imp.adoptBs 4 4 _ _ rfl rfl rfl (by rw [hX];rfl)) ?_;simp only [List.set_cons_succ,List.set_cons_zero])|(with_reducible first|refine St.f ?_|refine V_c ?_|refine eDn ?_|refine And.intro ?_ ?_|refine aH ?_ ?_|refine aK ?_)|((refine aN ?_);intro K hK)|((with_reducible refine So.f ?_);intro K hK;simp(contextual:=true)only [go_sem,simprocAttr])|((with_reducible refine hK _ ?_);clear hK K)|(refine fun(hc:(_:Bool)=_)=>?_;try simp only [hcS]at hc))
    all_goals try exact om_
    have hk:=aD8 hfl hL sd.toShape
    have hrw:∀a,a<(fcA L).length→((fcA L).getD a []).length≤1048576:=fun a ha=>by have:=(hfl.arr (bI (d:=[]) ha)).len;omega
    refine aG (G:={x:Nat//x≤L.length∧(True)}) (fun⟨x,_⟩=>[(11,iv x),(2, .ptr 0 0),(6, .ptr 4 0)]) [3,4,5] (fun⟨x,_⟩=>[(3,⟨1, .arr (aS L)⟩),(4,⟨1, .box [iv L.length, .sl 7, .sl 8, .sl 6, .sl 9, .sl 3, .sl 5]⟩),(5,⟨1, .arr (aF (fcA L))⟩),(6,⟨1, .arr (ints (idF (fcA L) L x))⟩),(7,⟨1, .arr (ints [])⟩),(8,⟨1, .arr (ints [])⟩),(9,⟨1, .arr (aF [])⟩)]) [3,4,5,6,7,8,9] (fun zz=>L.length-zz.1) ⟨0,Nat.zero_le _,by first|trivial|simp⟩ ?_ ?_
    ·exact Imp.au hX
    rintro⟨x,hix,hwx⟩
    simp only [go_sem,simprocAttr]
    have hil:=aOB (A:=fcA L) (L:=L) (i:=x)
    rcases Nat.lt_or_ge x L.length with hlx|hgx
    ·have hm:=aD7 hfl sc sd hlx
     have hlen:=(hfl.arr hm).len
     have hul:(fQ (L.getD x default)).length+1+1=c.ob.toNat+2:=hlen
     obtain⟨f1,f2,f3⟩:=hfl x hlx
     have hse:=aHD (f:=L.getD x default) (by rw [f1];exact sc.toShape) (by rw [f2];exact sd.toShape) f3
     have har:=rU (ob:=(L.length:Int)) (i:=x) (j:=x) (fr:=[]) (to:=[]) (id:=idF (fcA L) L x) (p:=fQ (L.getD x default)) (co:=[]) (L:=fcA L) (F:=L) (by omega) hrw (by omega)
     have his:idF (fcA L) L (x+1)=idF (fcA L) L x++[fnd (fcA L) ((x:Int)::(x:Int)::fQ (L.getD x default))]:=aLH
     have hpx:=hpart x hlx
     repeat'(first|(rw [hpx];simp only [go_sem,simprocAttr])|(with_reducible first|refine St.f ?_|refine V_c ?_|refine eDn ?_|refine And.intro ?_ ?_|refine aH ?_ ?_|refine aK ?_)|((refine aN ?_);intro K hK)|((with_reducible refine So.f ?_);intro K hK;simp(contextual:=true)only [go_sem,simprocAttr])|((with_reducible refine hK _ ?_);clear hK K)|((with_reducible refine aC 190 ?_);refine EvCall.mr (hse) aE4 [(0,10)] [3] ?_)|((with_reducible refine aC 89 ?_);refine EvCall.mr (har) oK [] [7,8,6,9,3,5,10] ?_)|(refine fun(hc:(_:Bool)=_)=>?_;try simp only [hcS]at hc))
     all_goals try exact om_
     ·refine⟨⟨x+1,by omega,(by trivial)⟩,by simp only;omega,Imp.auto hX (by simp only [go_sem,simprocAttr,his])⟩
    ·have ex:x=L.length:=by omega
     subst ex
     repeat'(first|(with_reducible first|refine St.f ?_|refine V_c ?_|refine eDn ?_|refine And.intro ?_ ?_|refine aH ?_ ?_|refine aK ?_)|((refine aN ?_);intro K hK)|((with_reducible refine So.f ?_);intro K hK;simp(contextual:=true)only [go_sem,simprocAttr])|((with_reducible refine hK _ ?_);clear hK K)|(refine fun(hc:(_:Bool)=_)=>?_;try simp only [hcS]at hc))
     all_goals try exact om_
     refine aG (G:={a:Nat//a≤(fcA L).length∧(True)}) (fun⟨a,_⟩=>[(12,iv a),(2, .ptr 0 0),(6, .ptr 4 0)]) [3,4,5] (fun⟨a,_⟩=>[(3,⟨1, .arr (aS L)⟩),(4,⟨1, .box [iv L.length, .sl 7, .sl 8, .sl 6, .sl 9, .sl 3, .sl 5]⟩),(5,⟨1, .arr (aF (fcA L))⟩),(6,⟨1, .arr (ints (idF (fcA L) L L.length))⟩),(7,⟨1, .arr (ints (((fcA L).take a).map fun r=>r.getD 0 0))⟩),(8,⟨1, .arr (ints (((fcA L).take a).map fun r=>r.getD 1 0))⟩),(9,⟨1, .arr (aF (wY d (fcA L) a))⟩)]) [3,4,5,6,7,8,9] (fun zz=>(fcA L).length-zz.1) ⟨0,Nat.zero_le _,by first|trivial|simp⟩ ?_ ?_
     ·exact Imp.au hX
     rintro⟨a,hia,hwa⟩
     simp only [go_sem,simprocAttr]
     have hk1:(((fcA L).take a).map fun r=>r.getD 0 0).length≤a:=by rw [List.length_map,List.length_take];omega
     have hk2:(((fcA L).take a).map fun r=>r.getD 1 0).length≤a:=by rw [List.length_map,List.length_take];omega
     have hk3:=aJ3 (d:=d) (A:=fcA L) (a:=a)
     rcases Nat.lt_or_ge a (fcA L).length with hla|hga
     ·have ma:(fcA L).getD a []∈fcA L:=bI hla
      have la:=(hfl.arr ma).len
      have e0:=aE7 (h:=fun r=>r.getD 0 0) hla
      have e1:=aE7 (h:=fun r=>r.getD 1 0) hla
      have e2:=aHq (d:=d) (A:=fcA L) (a:=a)
      repeat'(first|(with_reducible first|refine St.f ?_|refine V_c ?_|refine eDn ?_|refine And.intro ?_ ?_|refine aH ?_ ?_|refine aK ?_)|((refine aN ?_);intro K hK)|((with_reducible refine So.f ?_);intro K hK;simp(contextual:=true)only [go_sem,simprocAttr])|((with_reducible refine hK _ ?_);clear hK K)|(refine fun(hc:(_:Bool)=_)=>?_;try simp only [hcS]at hc))
      all_goals try exact om_
      refine aG (G:={b:Nat//b≤(fcA L).length∧(True)}) (fun⟨b,_⟩=>[(15,iv b),(2, .ptr 0 0),(6, .ptr 4 0),(12,iv a),(13, .bor [(5,1)] (ints ((fcA L).getD a []))),(14, .sl 14),(127, .sl 10),(137, .sl 12)]) [3,4,5] (fun⟨b,_⟩=>[(3,⟨1, .arr (aS L)⟩),(4,⟨1, .box [iv L.length, .sl 11, .sl 13, .sl 6, .sl 9, .sl 3, .sl 5]⟩),(5,⟨1, .arr (aF (fcA L))⟩),(6,⟨1, .arr (ints (idF (fcA L) L L.length))⟩),(10,⟨1, .arr (ints [((fcA L).getD a []).getD 0 0])⟩),(11,⟨1, .arr (ints (((fcA L).take a).map (fun r=>r.getD 0 0)++[((fcA L).getD a []).getD 0 0]))⟩),(12,⟨1, .arr (ints [((fcA L).getD a []).getD 1 0])⟩),(13,⟨1, .arr (ints (((fcA L).take a).map (fun r=>r.getD 1 0)++[((fcA L).getD a []).getD 1 0]))⟩),(9,⟨1, .arr (aF (wY d (fcA L) a))⟩),(14,⟨1, .arr (ints (cL d (fcA L) a b))⟩)]) [3,4,5,6,9,10,11,12,13,14] (fun zz=>(fcA L).length-zz.1) ⟨0,Nat.zero_le _,by first|trivial|simp⟩ ?_ ?_
      ·exact Imp.au hX
      rintro⟨b,hib,hwb⟩
      simp only [go_sem,simprocAttr]
      have hk4:=aF1 (d:=d) (A:=fcA L) (a:=a) (b:=b)
      rcases Nat.lt_or_ge b (fcA L).length with hlb|hgb
      ·have mb:(fcA L).getD b []∈fcA L:=bI hlb
       have lb:=(hfl.arr mb).len
       have w1:=hfl.comp_d ma
       have w2:=hfl.comp_d mb
       have d1:(((fcA L).getD a []).drop 2).length=((fcA L).getD a []).length-2:=List.length_drop
       have d2:(((fcA L).getD b []).drop 2).length=((fcA L).getD b []).length-2:=List.length_drop
       have hth:=aHE sd.toShape w1 w2 (by omega) (by omega)
       have hcl:=bS (d:=d) (s:=((fcA L).getD a []).drop 2) (t:=((fcA L).getD b []).drop 2)
       have hye:=aM0 (d:=d) (A:=fcA L) (a:=a) (b:=b)
       have hno:=wX (d:=d) (A:=fcA L) (a:=a) (b:=b)
       unfold fcC at hye
       have har:=rU (ob:=(L.length:Int)) (i:=((fcA L).getD a []).getD 0 0) (j:=((fcA L).getD b []).getD 1 0) (fr:=((fcA L).take a).map (fun r=>r.getD 0 0)++[((fcA L).getD a []).getD 0 0]) (to:=((fcA L).take a).map (fun r=>r.getD 1 0)++[((fcA L).getD a []).getD 1 0]) (id:=idF (fcA L) L L.length) (p:=cmpL d (((fcA L).getD a []).drop 2) (((fcA L).getD b []).drop 2)) (co:=wY d (fcA L) a) (L:=fcA L) (F:=L) (by omega) hrw (by omega)
       repeat'(first|(with_reducible first|refine St.f ?_|refine V_c ?_|refine eDn ?_|refine And.intro ?_ ?_|refine aH ?_ ?_|refine aK ?_)|((refine aN ?_);intro K hK)|((with_reducible refine So.f ?_);intro K hK;simp(contextual:=true)only [go_sem,simprocAttr])|((with_reducible refine hK _ ?_);clear hK K)|((with_reducible refine aC 191 ?_);refine EvCall.mr (hth) aE5 [(0,15)] [5] ?_)|((with_reducible refine aC 89 ?_);refine EvCall.mr (har) oK [] [11,13,6,9,3,5,15] ?_)|(refine aDg (n:=2) rfl rfl (by simp [go_sem,simprocAttr]) rfl (by omega) ?_;simp only [go_sem,simprocAttr])|(refine fun(hc:(_:Bool)=_)=>?_;try simp only [hcS]at hc))
       all_goals try exact om_
       ·have e7:=hye (by assumption)
        refine⟨⟨b+1,by omega,(by trivial)⟩,by simp only;omega,Imp.auto hX (by simp only [go_sem,simprocAttr,e7])⟩
       ·have e7:=hno (by assumption)
        refine⟨⟨b+1,by omega,(by trivial)⟩,by simp only;omega,Imp.auto hX (by simp only [go_sem,simprocAttr,e7])⟩
      ·have eb:b=(fcA L).length:=by omega
       subst eb
       repeat'(first|(with_reducible first|refine St.f ?_|refine V_c ?_|refine eDn ?_|refine And.intro ?_ ?_|refine aH ?_ ?_|refine aK ?_)|((refine aN ?_);intro K hK)|((with_reducible refine So.f ?_);intro K hK;simp(contextual:=true)only [go_sem,simprocAttr])|((with_reducible refine hK _ ?_);clear hK K)|(refine fun(hc:(_:Bool)=_)=>?_;try simp only [hcS]at hc))
       all_goals try exact om_
       ·refine⟨⟨a+1,by omega,(by(trivial))⟩,by simp only;omega,Imp.auto hX (by simp only [go_sem,simprocAttr,e0,e1,e2])⟩
     ·have ea:a=(fcA L).length:=by omega
      subst ea
      repeat'(first|(with_reducible first|refine St.f ?_|refine V_c ?_|refine eDn ?_|refine And.intro ?_ ?_|refine aH ?_ ?_|refine aK ?_)|((refine aN ?_);intro K hK)|((with_reducible refine So.f ?_);intro K hK;simp(contextual:=true)only [go_sem,simprocAttr])|((with_reducible refine hK _ ?_);clear hK K)|(refine fun(hc:(_:Bool)=_)=>?_;try simp only [hcS]at hc))
      all_goals try exact om_
      rcases ho with⟨_,rfl,rfl⟩|⟨hn2,_,_⟩
      ·(first|refine aB ?_|refine aA ?_);simp only [go_sem,simprocAttr,Tryz.f86]
       rw [hLd];exact⟨⟨rfl,rfl,rfl,rfl,rfl,rfl⟩,rfl⟩
      ·exact absurd ⟨hM,by rw [hLd];exact hL,by rw [hLd];exact hwi⟩ hn2
  ·have hl9:8<((fcL c d).take 201).length:=by rw [List.length_take];omega
   obtain⟨L,hLd⟩:∃L,(fcL c d).take 201=L:=⟨_,rfl⟩
   rw [hLd]at hall hl9
   refine aD (E:=TE) 0 Tryz.func86 rfl (by simp [Tryz.f86]) fun X hn hX=>?_
   repeat'(first|(with_reducible first|refine St.f ?_|refine V_c ?_|refine eDn ?_|refine And.intro ?_ ?_|refine aH ?_ ?_|refine aK ?_)|((refine aN ?_);intro K hK)|((with_reducible refine So.f ?_);intro K hK;simp(contextual:=true)only [go_sem,simprocAttr])|((with_reducible refine hK _ ?_);clear hK K)|((with_reducible refine aC 187 ?_);refine EvCall.mr (hsm) oJ [] [] ?_)|((with_reducible refine aC 188 ?_);refine EvCall.mr (hall) aAV [(0,3)] [] ?_)|(refine fun(hc:(_:Bool)=_)=>?_;try simp only [hcS]at hc))
   all_goals try exact om_
   ·rcases ho with⟨hy,_,_⟩|⟨_,rfl,rfl⟩
    ·exact absurd hy.2.1 hL
    ·(first|refine aB ?_|refine aA ?_);simp only [go_sem,simprocAttr,Tryz.f86]
 ·rw [eD hM]at hsm
  refine aD (E:=TE) 0 Tryz.func86 rfl (by simp [Tryz.f86]) fun X hn hX=>?_
  repeat'(first|(with_reducible first|refine St.f ?_|refine V_c ?_|refine eDn ?_|refine And.intro ?_ ?_|refine aH ?_ ?_|refine aK ?_)|((refine aN ?_);intro K hK)|((with_reducible refine So.f ?_);intro K hK;simp(contextual:=true)only [go_sem,simprocAttr])|((with_reducible refine hK _ ?_);clear hK K)|((with_reducible refine aC 187 ?_);refine EvCall.mr (hsm) oJ [] [] ?_)|(refine fun(hc:(_:Bool)=_)=>?_;try simp only [hcS]at hc))
  all_goals try exact om_
  ·rcases ho with⟨hy,_,_⟩|⟨_,rfl,rfl⟩
   ·exact absurd hy.1 hM
   ·(first|refine aB ?_|refine aA ?_);simp only [go_sem,simprocAttr,Tryz.f86]
end Go.Eng
end
