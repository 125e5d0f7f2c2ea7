/- Lists of numbers by the reference: an index, a count, a repetition, the top, classes, classes joined. -/
import Derived.Test.YtipohdpnhodnmaaGreatKfx
import Derived.Test.YtipohdpnhodnmaaGreatKjx
set_option linter.unusedSimpArgs false
set_option linter.unusedVariables false
set_option maxRecDepth 100000
set_option maxHeartbeats 16000000
namespace Go.Eng
open Go Go.Proofs Go.Cats
theorem aJn {E:Env} {d:Option Nat} {σ:Ss} {K:Ss→Prop} {t u:TypeId} {x y:Operand} {k:IntKind} {a b:Int} (hx:σ.opd x= .v (.int k a)) (hy:σ.opd y= .v (.int k b)) (hK:K (σ.ap d (.v (.int k (if b>a then b else a))) [] σ.nx)):
  cG E d (.call {callee:= .builtin .max,args:= #[x,y],argTypes:= #[t,u]}) σ K:=by
 refine⟨[],_,[],_,fun X o _ hd ho hdn tm rs h1 h2=>?_,hK,fun i hi=>by simp at hi⟩
 refine bM (E:=E) (by rw [hd];exact hdn) _ fun ac w c hp h=>?_
 have hx1:=h x
 have hy1:=h y
 rw [h1 x (by rw [ho];simp [Op.operands,Call.operands]),show opd (lk σ.tm) x=σ.opd x from rfl,hx]at hx1
 rw [h1 y (by rw [ho];simp [Op.operands,Call.operands]),show opd (lk σ.tm) y=σ.opd y from rfl,hy]at hy1
 simp only [Sv.ok]at hx1 hy1
 simp [execOp,ho,resolve,invoke,builtin,hx1,hy1,Builtin.max_,Builtin.max2]
namespace B4
theorem jF:aF Tryz.prog 257:=⟨_,Tryz.func257,rfl,rfl⟩
theorem lL {l:List Int} {n:Int} (hl:l.length≤1048576):Spec Tryz.prog 257 [.bor [] (ints l),iv n] [] (iv (idxOf l n)) []:=by
 refine aD (E:=TE) 0 Tryz.func257 rfl (by simp [Tryz.f257]) fun X hn hX=>?_
 repeat'(first|refine wkQ ?_|refine Tw.f ?_ ?_|(refine fun(hc:(_:Bool)=_)=>?_;try simp only [hcS]at hc))
 refine aG (G:={i:Nat//i≤l.length∧(aW i (iY l n)=none)}) (fun⟨i,_⟩=>[(5,iv i)]) [0,1] (fun⟨i,_⟩=>[]) [] (fun zz=>l.length-zz.1) ⟨0,Nat.zero_le _,by rfl⟩ ?_ ?_
 ·exact Imp.au hX
 rintro⟨i,hii,hwi⟩
 simp only [go_sem,simprocAttr]
 repeat'(first|refine wkQ ?_|refine Tw.f ?_ ?_|(refine fun(hc:(_:Bool)=_)=>?_;try simp only [hcS]at hc))
 all_goals try exact om_
 ·(first|refine aB ?_|refine aA ?_);simp only [go_sem,simprocAttr,Tryz.f257]
  rw [idxOf_hit hwi (by omega) hc]
 ·refine⟨⟨i+1,by omega,(by exact aX hwi (aE2 hc))⟩,by simp only;omega,Imp.ao hX⟩
 ·(first|refine aB ?_|refine aA ?_);simp only [go_sem,simprocAttr,Tryz.f257]
  rw [qW (bK hwi hii (by omega))]
end B4
open B4 (lL jF)
attribute [local go_sem] mK
def _root_.Go.Cats.topI (l:List Int):Nat→Int
 |0=>0
 |i+1=>if l.getD i 0+1>topI l i then l.getD i 0+1 else topI l i
theorem nK {l:List Int} {B:Int} (h0:0≤B) (h:∀i,i<l.length→l.getD i 0<B):∀i,i≤l.length→0≤topI l i∧topI l i≤B
 |0,_=>⟨Int.le_refl _,h0⟩
 |i+1,hi=>by
  have:=nK h0 h i (by omega)
  have:=h i (by omega)
  unfold topI
  split<;>omega
theorem aBQ (l:List Int):topI l 0=0:=rfl
theorem aBP (l:List Int) (i:Nat):topI l (i+1)=if l.getD i 0+1>topI l i then l.getD i 0+1 else topI l i:=rfl
attribute [local go_sem] aBQ
def _root_.Go.Cats.clsI (l:List Int):Nat→List Int×List Int
 |0=>([],[])
 |i+1=>if idxOf (clsI l i).2 (l.getD i 0)<0 then((clsI l i).1++[((clsI l i).2.length:Int)],(clsI l i).2++[l.getD i 0])else((clsI l i).1++[idxOf (clsI l i).2 (l.getD i 0)],(clsI l i).2)
theorem jY (l:List Int):∀i,(clsI l i).1.length=i∧(clsI l i).2.length≤i∧∀j,j<i→0≤(clsI l i).1.getD j 0∧(clsI l i).1.getD j 0<i
 |0=>⟨rfl,Nat.le_refl _,fun j hj=>by omega⟩
 |i+1=>by
  obtain⟨h1,h2,h3⟩:=jY l i
  have key:∀v:Int,0≤v∧v<i+1→∀j,j<i+1→0≤((clsI l i).1++[v]).getD j 0∧((clsI l i).1++[v]).getD j 0<i+1:=fun v hv j hj=>by
   by_cases hji:j<i
   ·have:=h3 j hji
    rw [List.getD_eq_getElem?_getD,List.getElem?_append_left (by omega),←List.getD_eq_getElem?_getD]
    omega
   ·rw [show j=i by omega,List.getD_eq_getElem?_getD,List.getElem?_append_right (by omega),h1,Nat.sub_self]
    exact hv
  unfold clsI
  split
  ·refine⟨by simp [h1],by simp;omega,fun j hj=>?_⟩
   have:=key ((clsI l i).2.length:Int) ⟨by omega,by omega⟩ j hj
   simpa using this
  ·rename_i hc
   have:=aDB (l:=(clsI l i).2) (n:=l.getD i 0) (by omega)
   refine⟨by simp [h1],by simp;omega,fun j hj=>?_⟩
   have:=key (idxOf (clsI l i).2 (l.getD i 0)) ⟨this.1,by omega⟩ j hj
   simpa using this
theorem aDa {l:List Int} {i:Nat} (h:idxOf (clsI l i).2 (l.getD i 0)<0):clsI l (i+1)=((clsI l i).1++[((clsI l i).2.length:Int)],(clsI l i).2++[l.getD i 0]):=by rw [clsI,if_pos h]
theorem aDb {l:List Int} {i:Nat} (h:¬idxOf (clsI l i).2 (l.getD i 0)<0):clsI l (i+1)=((clsI l i).1++[idxOf (clsI l i).2 (l.getD i 0)],(clsI l i).2):=by rw [clsI,if_neg h]
theorem aG2 (l:List Int):clsI l 0=([],[]):=rfl
attribute [local go_sem] aG2
theorem xX:aF Tryz.prog 256:=⟨_,Tryz.func256,rfl,rfl⟩
theorem aAT {l:List Int} (hl:l.length≤1048576):Spec Tryz.prog 256 [.bor [] (ints l)] [] (.sl 0) [(0,⟨1, .arr (ints (clsI l l.length).1)⟩)]:=by
 refine aD (E:=TE) 0 Tryz.func256 rfl (by simp [Tryz.f256]) fun X hn hX=>?_
 repeat'(first|refine wkQ ?_|refine Tw.f ?_ ?_|(refine fun(hc:(_:Bool)=_)=>?_;try simp only [hcS]at hc))
 all_goals try exact om_
 refine aG (G:={i:Nat//i≤l.length∧(True)}) (fun⟨i,_⟩=>[(5,iv i),(3, .sl 0),(4, .sl 1)]) [0,2] (fun⟨i,_⟩=>[(0,⟨1, .arr (ints (clsI l i).1)⟩),(1,⟨1, .arr (ints (clsI l i).2)⟩)]) [0,1] (fun zz=>l.length-zz.1) ⟨0,Nat.zero_le _,by first|trivial|simp⟩ ?_ ?_
 ·exact Imp.au hX
 rintro⟨i,hii,hwi⟩
 simp only [go_sem,simprocAttr]
 obtain⟨f1,f2,_⟩:=jY l i
 repeat'(first|refine wkQ ?_|refine Tw.f ?_ ?_|(refine kcQ jF ?_;refine krQ (lL ?_) ?_)|(refine fun(hc:(_:Bool)=_)=>?_;try simp only [hcS]at hc))
 all_goals try exact om_
 ·refine⟨⟨i+1,by omega,(by trivial)⟩,by simp only;omega,Imp.auto hX (by simp only [go_sem,simprocAttr,aDa hc])⟩
 ·refine⟨⟨i+1,by omega,(by trivial)⟩,by simp only;omega,Imp.auto hX (by simp only [go_sem,simprocAttr,aDb (Int.not_lt.2 hc)])⟩
 ·(first|refine aB ?_|refine aA ?_);simp only [go_sem,simprocAttr,Tryz.f256]
  rw [show i=l.length by omega]
def _root_.Go.Cats.joI (L:List Int) (a b:Int) (i:Nat):List Int:=(L.take i).map (fun v=>if v=b then a else v)++L.drop i
theorem aJI (L:List Int) (a b:Int):joI L a b 0=L:=by simp [joI]
theorem aGk (L:List Int) (a b:Int) (i:Nat):(joI L a b i).length=L.length:=by simp [joI];omega
theorem aJF (L:List Int) (a b:Int) (i:Nat):(joI L a b i).getD i 0=L.getD i 0:=by
 unfold joI
 by_cases h:i<L.length
 ·rw [List.getD_eq_getElem?_getD,List.getElem?_append_right (by simp;omega)]
  simp [List.getD_eq_getElem?_getD]
  congr 2
  omega
 ·rw [List.getD_eq_getElem?_getD,List.getElem?_eq_none (by simp;omega),List.getD_eq_getElem?_getD,List.getElem?_eq_none (by omega)]
theorem aDD {L:List Int} {a b:Int} {i:Nat} (h:i<L.length):joI L a b (i+1)=(L.take i).map (fun v=>if v=b then a else v)++(if L.getD i 0=b then a else L.getD i 0)::L.drop (i+1):=by
 unfold joI
 rw [List.take_add_one,List.getElem?_eq_getElem h,Option.toList_some,List.map_append,List.getD_eq_getElem?_getD,List.getElem?_eq_getElem h]
 simp
theorem aMr {L:List Int} {a b:Int} {i:Nat} (h:i<L.length) (hb:b=(joI L a b i).getD i 0):joI L a b (i+1)=(joI L a b i).set i a:=by
 rw [aJF]at hb
 rw [aDD h,if_pos hb.symm]
 unfold joI
 rw [List.set_append_right _ _ (by simp;omega)]
 simp only [List.length_map,List.length_take]
 rw [show i-min i L.length=0 by omega,List.drop_eq_getElem_cons h]
 rfl
theorem aJG {L:List Int} {a b:Int} {i:Nat} (h:i<L.length) (hb:¬b=(joI L a b i).getD i 0):joI L a b (i+1)=joI L a b i:=by
 rw [aJF]at hb
 rw [aDD h,if_neg (fun q=>hb q.symm)]
 unfold joI
 rw [List.drop_eq_getElem_cons h,List.getD_eq_getElem?_getD,List.getElem?_eq_getElem h]
 rfl
theorem aJH (L:List Int) (a:Int) (i:Nat):joI L a a i=L:=by
 unfold joI
 rw [show(L.take i).map (fun v=>if v=a then a else v)=L.take i from ?_,List.take_append_drop]
 conv=>rhs;rw [←List.map_id (L.take i)]
 refine List.map_congr_left fun v _=>?_
 split
 ·rename_i h;exact h.symm
 ·rfl
def _root_.Go.Cats.joK (n:Nat) (ps:List (List Int)):Nat→List Int
 |0=>nums n
 |k+1=>joI (joK n ps k) ((joK n ps k).getD ((ps.getD k []).getD 0 0).toNat 0) ((joK n ps k).getD ((ps.getD k []).getD 1 0).toNat 0) n
theorem mX (n:Nat) (ps:List (List Int)):∀k,(joK n ps k).length=n
 |0=>dS n
 |k+1=>by rw [joK,aGk,mX]
theorem aJK (n:Nat) (ps:List (List Int)):joK n ps 0=nums n:=rfl
theorem yX (n:Nat) (ps:List (List Int)) (k:Nat):joK n ps (k+1)=joI (joK n ps k) ((joK n ps k).getD ((ps.getD k []).getD 0 0).toNat 0) ((joK n ps k).getD ((ps.getD k []).getD 1 0).toNat 0) n:=rfl
attribute [local go_sem] aJI aGk mX aJK
theorem uS:aF Tryz.prog 229:=⟨_,Tryz.func229,rfl,rfl⟩
theorem zW {n:Nat} {ps:List (List Int)} (hn0:n≤1048576) (hl:ps.length≤1048576) (hp:∀k,k<ps.length→(ps.getD k []).length=2∧(0≤(ps.getD k []).getD 0 0∧(ps.getD k []).getD 0 0<n)∧0≤(ps.getD k []).getD 1 0∧(ps.getD k []).getD 1 0<n):Spec Tryz.prog 229 [iv n, .bor [] (aC ps)] [] (.sl 0) [(0,⟨1, .arr (ints (clsI (joK n ps ps.length) n).1)⟩)]:=by
 refine aD (E:=TE) 0 Tryz.func229 rfl (by simp [Tryz.f229]) fun X hn hX=>?_
 repeat'(first|refine wkQ ?_|refine Tw.f ?_ ?_|(refine fun(hc:(_:Bool)=_)=>?_;try simp only [hcS]at hc))
 all_goals try exact om_
 refine aG (G:={i:Nat//i≤n∧(True)}) (fun⟨i,_⟩=>[(6,iv i),(5, .sl 0)]) [0,1,4] (fun⟨i,_⟩=>[(0,⟨1, .arr (ints (nums i))⟩)]) [0] (fun zz=>n-zz.1) ⟨0,Nat.zero_le _,by first|trivial|simp⟩ ?_ ?_
 ·exact Imp.au hX
 rintro⟨i,hii,hwi⟩
 simp only [go_sem,simprocAttr]
 have:=dS i
 repeat'(first|refine wkQ ?_|refine Tw.f ?_ ?_|(refine fun(hc:(_:Bool)=_)=>?_;try simp only [hcS]at hc))
 all_goals try exact om_
 ·refine⟨⟨i+1,by omega,(by trivial)⟩,by simp only;omega,Imp.auto hX (by simp only [go_sem,simprocAttr,uA])⟩
 ·obtain rfl:i=n:=by omega
  refine aG (G:={k:Nat//k≤ps.length∧(True)}) (fun⟨k,_⟩=>[(7,iv k),(5, .sl 0)]) [1,4] (fun⟨k,_⟩=>[(0,⟨1, .arr (ints (joK i ps k))⟩)]) [0] (fun zz=>ps.length-zz.1) ⟨0,Nat.zero_le _,by first|trivial|simp⟩ ?_ ?_
  ·exact Imp.au hX
  rintro⟨k,hik,hwk⟩
  simp only [go_sem,simprocAttr]
  have g1:=hp k
  have g2:=mX i ps k
  repeat'(first|refine wkQ ?_|refine Tw.f ?_ ?_|(refine fun(hc:(_:Bool)=_)=>?_;try simp only [hcS]at hc))
  all_goals try exact om_
  ·refine aG (G:={j:Nat//j≤i∧(True)}) (fun⟨j,_⟩=>[(10,iv j),(5, .sl 0)]) [1,4,7,8,9] (fun⟨j,_⟩=>[(0,⟨1, .arr (ints (joI (joK i ps k) ((joK i ps k).getD ((ps.getD k []).getD 0 0).toNat 0) ((joK i ps k).getD ((ps.getD k []).getD 1 0).toNat 0) j))⟩)]) [0] (fun zz=>i-zz.1) ⟨0,Nat.zero_le _,by first|trivial|simp⟩ ?_ ?_
   ·exact Imp.au hX
   rintro⟨j,hij,hwj⟩
   simp only [go_sem,simprocAttr]
   repeat'(first|refine wkQ ?_|refine Tw.f ?_ ?_|(refine fun(hc:(_:Bool)=_)=>?_;try simp only [hcS]at hc))
   all_goals try exact om_
   ·refine⟨⟨j+1,by omega,(by trivial)⟩,by simp only;omega,Imp.auto hX (by simp only [go_sem,simprocAttr,aMr (by rw [mX];omega) hc.symm])⟩
   ·refine⟨⟨j+1,by omega,(by trivial)⟩,by simp only;omega,Imp.auto hX (by simp only [go_sem,simprocAttr,aJG (by rw [mX];omega) fun q=>hc q.symm])⟩
   ·have e1:=aJH (joK i ps k) ((joK i ps k).getD ((ps.getD k []).getD 0 0).toNat 0)
    refine⟨⟨k+1,by omega,(by trivial)⟩,by simp only;omega,Imp.auto hX (by simp only [go_sem,simprocAttr,yX,←hc,e1])⟩
   ·have e1:j=i:=by omega
    refine⟨⟨k+1,by omega,(by trivial)⟩,by simp only;omega,Imp.auto hX (by simp only [go_sem,simprocAttr,yX,e1])⟩
  ·have g3:=mX i ps ps.length
   repeat'(first|refine wkQ ?_|refine Tw.f ?_ ?_|(refine kcQ xX ?_;refine krQ (aAT ?_) ?_)|(refine fun(hc:(_:Bool)=_)=>?_;try simp only [hcS]at hc))
   all_goals try exact om_
   ·(first|refine aB ?_|refine aA ?_);simp only [go_sem,simprocAttr,Tryz.f229]
    rw [show k=ps.length by omega]
end Go.Eng
