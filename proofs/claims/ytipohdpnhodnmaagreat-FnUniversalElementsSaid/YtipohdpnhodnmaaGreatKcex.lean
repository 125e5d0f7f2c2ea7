/- Several texts in one: Z10, Z11. -/
import Derived.Test.YtipohdpnhodnmaaGreatKcdx
set_option linter.unusedSimpArgs false
set_option linter.unusedVariables false
set_option maxRecDepth 100000
set_option maxHeartbeats 32000000
section
namespace Go.Eng
open Go Go.Proofs Go.Cats
attribute [local go_sem] List.set_cons_zero List.set_cons_succ
theorem aDY {s:RnS} {n:Nat} (h:RnOk s):Dim n (aDX s n):=aFR (aDZ ⟨nD n,fun j hj=>(sM h n (Nat.le_refl n) j hj).1⟩ _) n
def grG (s:RnS) (n:Int):Nat→List Int×List Int×RnS
 |0=>([],[],s)
 |k+1=>
  let a:=aK (grG s n k).2.2 (n-1)
  let s':=aL (grG s n k).2.2 (n-1)
  ((grG s n k).1++[a],(grG s n k).2.1++[a+1+aK s' (n-1-a)],aL s' (n-1-a))
section
variable {s:RnS} {n:Int} {k:Nat}
theorem yT (h:RnOk s):∀k,RnOk (grG s n k).2.2
 |0=>h
 |k+1=>aM (aM (yT h k))
theorem mH:∀k,(grG s n k).1.length=k
 |0=>rfl
 |k+1=>by rw [grG];simp only [List.length_append,List.length_singleton,mH k]
theorem sB:∀k,(grG s n k).2.1.length=k
 |0=>rfl
 |k+1=>by rw [grG];simp only [List.length_append,List.length_singleton,sB k]
theorem aDt (h:RnOk s) (hn:2≤n):∀k e,e<k→0≤(grG s n k).1.getD e 0∧(grG s n k).1.getD e 0<(grG s n k).2.1.getD e 0∧(grG s n k).2.1.getD e 0<n
 |0,e,he=>absurd he (Nat.not_lt_zero e)
 |k+1,e,he=>by
  have l1:=mH (s:=s) (n:=n) k
  have l2:=sB (s:=s) (n:=n) k
  rw [grG]
  simp only
  rcases Nat.lt_or_ge e k with h1|h1
  ·rw [List.getD_eq_getElem?_getD,List.getD_eq_getElem?_getD,List.getElem?_append_left (by omega),List.getElem?_append_left (by omega),←List.getD_eq_getElem?_getD,←List.getD_eq_getElem?_getD]
   exact aDt h hn k e h1
  ·obtain rfl:e=k:=by omega
   have b1:=aV (n:=n-1) (yT (n:=n) h e) (by omega)
   have b2:=aV (n:=n-1-aK (grG s n e).2.2 (n-1)) (aM (n:=n-1) (yT (n:=n) h e)) (by omega)
   rw [List.getD_eq_getElem?_getD,List.getD_eq_getElem?_getD,List.getElem?_append_right (by omega),List.getElem?_append_right (by omega),l1,l2,Nat.sub_self]
   simp only [List.getElem?_cons_zero,Option.getD_some]
   omega
end
theorem aE0 {s:RnS} {n k:Nat} (h:RnOk s) (hn:n=2∨n=3) (hk:k≤3):GrOk n (grG s n k).1 (grG s n k).2.1:=
 ⟨hn,by rw [mH];exact hk,by rw [mH,sB],fun e he=>aDt h (by omega) k e (by rw [mH]at he;exact he)⟩
theorem gr_fix:GrOk 2 [0,0] [1,1]:=⟨.inl rfl,by decide,rfl,fun e he=>by
 obtain _|_|e:=e
 ·decide
 ·decide
 ·simp at he;omega⟩
theorem gr_fix3:GrOk 3 [0,1,0] [1,2,2]:=⟨.inr rfl,by decide,rfl,fun e he=>by
 obtain _|_|_|e:=e
 ·decide
 ·decide
 ·decide
 ·simp at he;omega⟩
def bA (s:RnS):Nat→Cat×RnS
 |0=>(poC (aDX (aL s 5) (aK s 5).toNat) (aK s 5).toNat,aFp (aL s 5) (aK s 5).toNat)
 |1=>(poC [[1,1],[0,1]] 2,s)
 |2=>(poC [[1,1,1],[0,1,0],[0,0,1]] 3,s)
 |3=>(ptC 2 (gJ 2 [0,0] [1,1]),s)
 |4=>(moC (moT (aK s 8).toNat),aL s 8)
 |5=>(poC (nW (1+(aK s 3).toNat)) (1+(aK s 3).toNat),aL s 3)
 |6=>(ptC 3 (gJ 3 [0,1,0] [1,2,2]),s)
 |7=>(splC,s)
 |8=>(opC (jnC (moC (moT (aK s 8).toNat)) one1),aL s 8)
 |9=>(jnC (moC (moT (aK s 8).toNat)) one1,aL s 8)
 |10=>(poC (aDX (aL s 2) (2+(aK s 2).toNat)) (2+(aK s 2).toNat),aFp (aL s 2) (2+(aK s 2).toNat))
 |_=>(ptC (2+(aK s 2).toNat) (gJ (2+(aK s 2).toNat) (grG (aL (aL s 2) 4) ((2+(aK s 2).toNat:Nat):Int) (aK (aL s 2) 4).toNat).1 (grG (aL (aL s 2) 4) ((2+(aK s 2).toNat:Nat):Int) (aK (aL s 2) 4).toNat).2.1),(grG (aL (aL s 2) 4) ((2+(aK s 2).toNat:Nat):Int) (aK (aL s 2) 4).toNat).2.2)
def gU (s:RnS):Cat×RnS:=bA (aL s 12) (aK s 12).toNat
theorem oI (k:Nat):(moT k).length≤8∧∀i,i<(moT k).length→((moT k).getD i []).length≤8:=jP (fun t=>t.length≤8∧∀i,i<t.length→(t.getD i []).length≤8) (fun i hi=>by
 obtain rfl|rfl|rfl|rfl|rfl|rfl|rfl|rfl:i=0∨i=1∨i=2∨i=3∨i=4∨i=5∨i=6∨i=7:=by omega
 all_goals decide) k
theorem all_dim {n:Nat}:Dim n (nW n):=⟨by unfold nW;simp,fun j hj=>by unfold nW;rw [List.getD_eq_getElem?_getD,List.getElem?_replicate,if_pos hj];simp⟩
theorem aS:aF Tryz.prog 231:=⟨_,Tryz.func231,rfl,rfl⟩
theorem aAb {s z:RnS} (hs:RnOk s) (h0:Spec Tryz.prog 42 [.ptr 0 0,iv 12] [(0,bB z)] (iv 0) [(0,bB s)]):Spec Tryz.prog 231 [.ptr 0 0] [(0,bB z)] (.agg [iv (bA s 0).1.ob, .sl 1, .sl 2, .sl 3, .sl 4]) [(0,bB (bA s 0).2),(1,⟨1, .arr (ints (bA s 0).1.fr)⟩),(2,⟨1, .arr (ints (bA s 0).1.to)⟩),(3,⟨1, .arr (ints (bA s 0).1.id)⟩),(4,⟨1, .arr (aC (bA s 0).1.co)⟩)]:=by
 have hb:=aV (n:=5) hs (by decide)
 have h1:=aP (n:=5) hs
 obtain⟨n,hv⟩:∃n:Nat,aK s 5=n:=⟨(aK s 5).toNat,by omega⟩
 have e:bA s 0=(poC (aDX (aL s 5) n) n,aFp (aL s 5) n):=by unfold bA;rw [hv];rfl
 rw [e]
 rw [hv]at hb h1
 have ok:=aM (n:=5) hs
 have h2:=oT (n:=n) ok (by omega)
 have dm:=aDY (n:=n) ok
 have h4:=cM (xE (n:=n) ok (by omega)) dm.1 dm.2
 refine aD (E:=TE) 1 Tryz.func231 rfl (by simp [Tryz.f231]) fun X hn hX=>?_
 repeat'(first|refine wkQ ?_|refine Tw.f ?_ ?_|((with_reducible refine kaQ [.ptr 0 0,iv 12] ?_);refine kcQ aH ?_;refine kwQ (h0) [(0,0)] [] ?_)|((with_reducible refine kaQ [.ptr 0 0,iv 5] ?_);refine kcQ aH ?_;refine kwQ (h1) [(0,0)] [] ?_)|(refine kcQ nM ?_;refine kwQ (h2) [(0,0),(1,2)] [] ?_)|(refine kcQ bU ?_;refine kwQ (h4) [(0,3),(1,4),(2,5),(3,6)] [2] ?_)|(refine fun(hc:(_:Bool)=_)=>?_;try simp only [hcS]at hc))
 all_goals try exact om_
 all_goals try(exfalso;omega)
 (first|refine aB ?_|refine aA ?_);simp only [go_sem,simprocAttr,Tryz.f231]
theorem aAc {s z:RnS} (hs:RnOk s) (h0:Spec Tryz.prog 42 [.ptr 0 0,iv 12] [(0,bB z)] (iv 1) [(0,bB s)]):Spec Tryz.prog 231 [.ptr 0 0] [(0,bB z)] (.agg [iv (bA s 1).1.ob, .sl 1, .sl 2, .sl 3, .sl 4]) [(0,bB (bA s 1).2),(1,⟨1, .arr (ints (bA s 1).1.fr)⟩),(2,⟨1, .arr (ints (bA s 1).1.to)⟩),(3,⟨1, .arr (ints (bA s 1).1.id)⟩),(4,⟨1, .arr (aC (bA s 1).1.co)⟩)]:=by
 have h4:=cM po2 rfl (by decide)
 have e:bA s 1=(poC [[1,1],[0,1]] 2,s):=rfl
 rw [e]
 refine aD (E:=TE) 1 Tryz.func231 rfl (by simp [Tryz.f231]) fun X hn hX=>?_
 repeat'(first|refine wkQ ?_|refine Tw.f ?_ ?_|((with_reducible refine kaQ [.ptr 0 0,iv 12] ?_);refine kcQ aH ?_;refine kwQ (h0) [(0,0)] [] ?_)|(refine kcQ bU ?_;refine kwQ (h4) [(0,5),(1,6),(2,7),(3,8)] [4] ?_)|(refine fun(hc:(_:Bool)=_)=>?_;try simp only [hcS]at hc))
 all_goals try exact om_
 all_goals try(exfalso;omega)
 (first|refine aB ?_|refine aA ?_);simp only [go_sem,simprocAttr,Tryz.f231]
theorem aAd {s z:RnS} (hs:RnOk s) (h0:Spec Tryz.prog 42 [.ptr 0 0,iv 12] [(0,bB z)] (iv 2) [(0,bB s)]):Spec Tryz.prog 231 [.ptr 0 0] [(0,bB z)] (.agg [iv (bA s 2).1.ob, .sl 1, .sl 2, .sl 3, .sl 4]) [(0,bB (bA s 2).2),(1,⟨1, .arr (ints (bA s 2).1.fr)⟩),(2,⟨1, .arr (ints (bA s 2).1.to)⟩),(3,⟨1, .arr (ints (bA s 2).1.id)⟩),(4,⟨1, .arr (aC (bA s 2).1.co)⟩)]:=by
 have h4:=cM po3 rfl (by decide)
 have e:bA s 2=(poC [[1,1,1],[0,1,0],[0,0,1]] 3,s):=rfl
 rw [e]
 refine aD (E:=TE) 1 Tryz.func231 rfl (by simp [Tryz.f231]) fun X hn hX=>?_
 repeat'(first|refine wkQ ?_|refine Tw.f ?_ ?_|((with_reducible refine kaQ [.ptr 0 0,iv 12] ?_);refine kcQ aH ?_;refine kwQ (h0) [(0,0)] [] ?_)|(refine kcQ bU ?_;refine kwQ (h4) [(0,6),(1,7),(2,8),(3,9)] [5] ?_)|(refine fun(hc:(_:Bool)=_)=>?_;try simp only [hcS]at hc))
 all_goals try exact om_
 all_goals try(exfalso;omega)
 (first|refine aB ?_|refine aA ?_);simp only [go_sem,simprocAttr,Tryz.f231]
theorem aAe {s z:RnS} (hs:RnOk s) (h0:Spec Tryz.prog 42 [.ptr 0 0,iv 12] [(0,bB z)] (iv 3) [(0,bB s)]):Spec Tryz.prog 231 [.ptr 0 0] [(0,bB z)] (.agg [iv (bA s 3).1.ob, .sl 1, .sl 2, .sl 3, .sl 4]) [(0,bB (bA s 3).2),(1,⟨1, .arr (ints (bA s 3).1.fr)⟩),(2,⟨1, .arr (ints (bA s 3).1.to)⟩),(3,⟨1, .arr (ints (bA s 3).1.id)⟩),(4,⟨1, .arr (aC (bA s 3).1.co)⟩)]:=by
 have h4:=oU gr_fix
 rw [show((2:Nat):Int)=2 from rfl]at h4
 have e:bA s 3=(ptC 2 (gJ 2 [0,0] [1,1]),s):=rfl
 rw [e]
 refine aD (E:=TE) 1 Tryz.func231 rfl (by simp [Tryz.f231]) fun X hn hX=>?_
 repeat'(first|refine wkQ ?_|refine Tw.f ?_ ?_|((with_reducible refine kaQ [.ptr 0 0,iv 12] ?_);refine kcQ aH ?_;refine kwQ (h0) [(0,0)] [] ?_)|(refine kcQ mS ?_;refine kwQ (h4) [(0,4),(1,5),(2,6),(3,7)] [2,3] ?_)|(refine fun(hc:(_:Bool)=_)=>?_;try simp only [hcS]at hc))
 all_goals try exact om_
 all_goals try(exfalso;omega)
 (first|refine aB ?_|refine aA ?_);simp only [go_sem,simprocAttr,Tryz.f231]
theorem aAi {s z:RnS} (hs:RnOk s) (h0:Spec Tryz.prog 42 [.ptr 0 0,iv 12] [(0,bB z)] (iv 6) [(0,bB s)]):Spec Tryz.prog 231 [.ptr 0 0] [(0,bB z)] (.agg [iv (bA s 6).1.ob, .sl 1, .sl 2, .sl 3, .sl 4]) [(0,bB (bA s 6).2),(1,⟨1, .arr (ints (bA s 6).1.fr)⟩),(2,⟨1, .arr (ints (bA s 6).1.to)⟩),(3,⟨1, .arr (ints (bA s 6).1.id)⟩),(4,⟨1, .arr (aC (bA s 6).1.co)⟩)]:=by
 have h4:=oU gr_fix3
 rw [show((3:Nat):Int)=3 from rfl]at h4
 have e:bA s 6=(ptC 3 (gJ 3 [0,1,0] [1,2,2]),s):=rfl
 rw [e]
 refine aD (E:=TE) 1 Tryz.func231 rfl (by simp [Tryz.f231]) fun X hn hX=>?_
 repeat'(first|refine wkQ ?_|refine Tw.f ?_ ?_|((with_reducible refine kaQ [.ptr 0 0,iv 12] ?_);refine kcQ aH ?_;refine kwQ (h0) [(0,0)] [] ?_)|(refine kcQ mS ?_;refine kwQ (h4) [(0,4),(1,5),(2,6),(3,7)] [2,3] ?_)|(refine fun(hc:(_:Bool)=_)=>?_;try simp only [hcS]at hc))
 all_goals try exact om_
 all_goals try(exfalso;omega)
 (first|refine aB ?_|refine aA ?_);simp only [go_sem,simprocAttr,Tryz.f231]
theorem aAf {s z:RnS} (hs:RnOk s) (h0:Spec Tryz.prog 42 [.ptr 0 0,iv 12] [(0,bB z)] (iv 4) [(0,bB s)]):Spec Tryz.prog 231 [.ptr 0 0] [(0,bB z)] (.agg [iv (bA s 4).1.ob, .sl 1, .sl 2, .sl 3, .sl 4]) [(0,bB (bA s 4).2),(1,⟨1, .arr (ints (bA s 4).1.fr)⟩),(2,⟨1, .arr (ints (bA s 4).1.to)⟩),(3,⟨1, .arr (ints (bA s 4).1.id)⟩),(4,⟨1, .arr (aC (bA s 4).1.co)⟩)]:=by
 have h2:=nH hs
 have h3:=nI (oI (aK s 8).toNat).1 (oI (aK s 8).toNat).2
 have e:bA s 4=(moC (moT (aK s 8).toNat),aL s 8):=rfl
 rw [e]
 refine aD (E:=TE) 1 Tryz.func231 rfl (by simp [Tryz.f231]) fun X hn hX=>?_
 repeat'(first|refine wkQ ?_|refine Tw.f ?_ ?_|((with_reducible refine kaQ [.ptr 0 0,iv 12] ?_);refine kcQ aH ?_;refine kwQ (h0) [(0,0)] [] ?_)|(refine kcQ lP ?_;refine kwQ (h2) [(0,0),(1,2)] [] ?_)|(refine kcQ lQ ?_;refine kwQ (h3) [(0,3),(1,4),(2,5),(3,6)] [2] ?_)|(refine fun(hc:(_:Bool)=_)=>?_;try simp only [hcS]at hc))
 all_goals try exact om_
 all_goals try(exfalso;omega)
 (first|refine aB ?_|refine aA ?_);simp only [go_sem,simprocAttr,Tryz.f231]
theorem aAj {s z:RnS} (hs:RnOk s) (h0:Spec Tryz.prog 42 [.ptr 0 0,iv 12] [(0,bB z)] (iv 7) [(0,bB s)]):Spec Tryz.prog 231 [.ptr 0 0] [(0,bB z)] (.agg [iv (bA s 7).1.ob, .sl 1, .sl 2, .sl 3, .sl 4]) [(0,bB (bA s 7).2),(1,⟨1, .arr (ints (bA s 7).1.fr)⟩),(2,⟨1, .arr (ints (bA s 7).1.to)⟩),(3,⟨1, .arr (ints (bA s 7).1.id)⟩),(4,⟨1, .arr (aC (bA s 7).1.co)⟩)]:=by
 have h2:=aEb
 have e:bA s 7=(splC,s):=rfl
 rw [e]
 refine aD (E:=TE) 1 Tryz.func231 rfl (by simp [Tryz.f231]) fun X hn hX=>?_
 repeat'(first|refine wkQ ?_|refine Tw.f ?_ ?_|((with_reducible refine kaQ [.ptr 0 0,iv 12] ?_);refine kcQ aH ?_;refine kwQ (h0) [(0,0)] [] ?_)|(refine kcQ aB5 ?_;refine kwQ (h2) [(0,2),(1,3),(2,4),(3,5)] [] ?_)|(refine fun(hc:(_:Bool)=_)=>?_;try simp only [hcS]at hc))
 all_goals try exact om_
 all_goals try(exfalso;omega)
 (first|refine aB ?_|refine aA ?_);simp only [go_sem,simprocAttr,Tryz.f231]
theorem aAl {s z:RnS} (hs:RnOk s) (h0:Spec Tryz.prog 42 [.ptr 0 0,iv 12] [(0,bB z)] (iv 9) [(0,bB s)]):Spec Tryz.prog 231 [.ptr 0 0] [(0,bB z)] (.agg [iv (bA s 9).1.ob, .sl 1, .sl 2, .sl 3, .sl 4]) [(0,bB (bA s 9).2),(1,⟨1, .arr (ints (bA s 9).1.fr)⟩),(2,⟨1, .arr (ints (bA s 9).1.to)⟩),(3,⟨1, .arr (ints (bA s 9).1.id)⟩),(4,⟨1, .arr (aC (bA s 9).1.co)⟩)]:=by
 have h2:=nH hs
 have h3:=nI (oI (aK s 8).toNat).1 (oI (aK s 8).toNat).2
 have h4:Spec Tryz.prog 235 [.bor [] (aC [[1]])] [] (.agg [iv one1.ob, .sl 0, .sl 1, .sl 2, .sl 3]) [(0,⟨1, .arr (ints one1.fr)⟩),(1,⟨1, .arr (ints one1.to)⟩),(2,⟨1, .arr (ints one1.id)⟩),(3,⟨1, .arr (aC one1.co)⟩)]:=cM po1 rfl (by decide)
 have hmc:=aE9 (aK s 8).toNat
 have hmd:=oI (aK s 8).toNat
 have hoc:IsCat one1:=po1.cat
 have ho1:one1.ob=1:=rfl
 have hm1:(moC (moT (aK s 8).toNat)).ob=1:=rfl
 have hof:one1.fr.length=1:=rfl
 have hmf:(moC (moT (aK s 8).toNat)).fr.length=(moT (aK s 8).toNat).length:=List.length_replicate ..
 have h5:=aAo hmc.toShape hoc.toShape hm1 ho1 (aCB hmc hoc (by omega) (by omega))
 have e:bA s 9=(jnC (moC (moT (aK s 8).toNat)) one1,aL s 8):=rfl
 rw [e]
 refine aD (E:=TE) 1 Tryz.func231 rfl (by simp [Tryz.f231]) fun X hn hX=>?_
 repeat'(first|refine wkQ ?_|refine Tw.f ?_ ?_|((with_reducible refine kaQ [.ptr 0 0,iv 12] ?_);refine kcQ aH ?_;refine kwQ (h0) [(0,0)] [] ?_)|(refine kcQ lP ?_;refine kwQ (h2) [(0,0),(1,2)] [] ?_)|(refine kcQ lQ ?_;refine kwQ (h3) [(0,3),(1,4),(2,5),(3,6)] [2] ?_)|(refine kcQ bU ?_;refine kwQ (h4) [(0,9),(1,10),(2,11),(3,12)] [8] ?_)|(refine kcQ uZ ?_;refine kwQ (h5) [(0,13),(1,14),(2,15),(3,16)] [3,4,5,6,9,10,11,12] ?_)|(refine fun(hc:(_:Bool)=_)=>?_;try simp only [hcS]at hc))
 all_goals try exact om_
 all_goals try(exfalso;omega)
 (first|refine aB ?_|refine aA ?_);simp only [go_sem,simprocAttr,Tryz.f231]
theorem aAk {s z:RnS} (hs:RnOk s) (h0:Spec Tryz.prog 42 [.ptr 0 0,iv 12] [(0,bB z)] (iv 8) [(0,bB s)]):Spec Tryz.prog 231 [.ptr 0 0] [(0,bB z)] (.agg [iv (bA s 8).1.ob, .sl 1, .sl 2, .sl 3, .sl 4]) [(0,bB (bA s 8).2),(1,⟨1, .arr (ints (bA s 8).1.fr)⟩),(2,⟨1, .arr (ints (bA s 8).1.to)⟩),(3,⟨1, .arr (ints (bA s 8).1.id)⟩),(4,⟨1, .arr (aC (bA s 8).1.co)⟩)]:=by
 have h2:=nH hs
 have h3:=nI (oI (aK s 8).toNat).1 (oI (aK s 8).toNat).2
 have h4:Spec Tryz.prog 235 [.bor [] (aC [[1]])] [] (.agg [iv one1.ob, .sl 0, .sl 1, .sl 2, .sl 3]) [(0,⟨1, .arr (ints one1.fr)⟩),(1,⟨1, .arr (ints one1.to)⟩),(2,⟨1, .arr (ints one1.id)⟩),(3,⟨1, .arr (aC one1.co)⟩)]:=cM po1 rfl (by decide)
 have hmc:=aE9 (aK s 8).toNat
 have hmd:=oI (aK s 8).toNat
 have hoc:IsCat one1:=po1.cat
 have ho1:one1.ob=1:=rfl
 have hm1:(moC (moT (aK s 8).toNat)).ob=1:=rfl
 have hof:one1.fr.length=1:=rfl
 have hmf:(moC (moT (aK s 8).toNat)).fr.length=(moT (aK s 8).toNat).length:=List.length_replicate ..
 have h5:=aAo hmc.toShape hoc.toShape hm1 ho1 (aCB hmc hoc (by omega) (by omega))
 have h6:=aK3 (aJD (aK s 8).toNat).toShape
 have e:bA s 8=(opC (jnC (moC (moT (aK s 8).toNat)) one1),aL s 8):=rfl
 rw [e]
 refine aD (E:=TE) 1 Tryz.func231 rfl (by simp [Tryz.f231]) fun X hn hX=>?_
 repeat'(first|refine wkQ ?_|refine Tw.f ?_ ?_|((with_reducible refine kaQ [.ptr 0 0,iv 12] ?_);refine kcQ aH ?_;refine kwQ (h0) [(0,0)] [] ?_)|(refine kcQ lP ?_;refine kwQ (h2) [(0,0),(1,2)] [] ?_)|(refine kcQ lQ ?_;refine kwQ (h3) [(0,3),(1,4),(2,5),(3,6)] [2] ?_)|(refine kcQ bU ?_;refine kwQ (h4) [(0,9),(1,10),(2,11),(3,12)] [8] ?_)|(refine kcQ uZ ?_;refine kwQ (h5) [(0,13),(1,14),(2,15),(3,16)] [3,4,5,6,9,10,11,12] ?_)|(refine kcQ aG0 ?_;refine kwQ (h6) [(0,17),(1,18),(2,19),(3,20)] [13,14,15,16] ?_)|(refine fun(hc:(_:Bool)=_)=>?_;try simp only [hcS]at hc))
 all_goals try exact om_
 all_goals try(exfalso;omega)
 (first|refine aB ?_|refine aA ?_);simp only [go_sem,simprocAttr,Tryz.f231]
theorem vW {s z:RnS} (hs:RnOk s) (h0:Spec Tryz.prog 42 [.ptr 0 0,iv 12] [(0,bB z)] (iv 10) [(0,bB s)]):Spec Tryz.prog 231 [.ptr 0 0] [(0,bB z)] (.agg [iv (bA s 10).1.ob, .sl 1, .sl 2, .sl 3, .sl 4]) [(0,bB (bA s 10).2),(1,⟨1, .arr (ints (bA s 10).1.fr)⟩),(2,⟨1, .arr (ints (bA s 10).1.to)⟩),(3,⟨1, .arr (ints (bA s 10).1.id)⟩),(4,⟨1, .arr (aC (bA s 10).1.co)⟩)]:=by
 have hb:=aV (n:=2) hs (by decide)
 have h1:=aP (n:=2) hs
 obtain⟨n,hv⟩:∃n:Nat,aK s 2=n:=⟨(aK s 2).toNat,by omega⟩
 have e:bA s 10=(poC (aDX (aL s 2) (2+n)) (2+n),aFp (aL s 2) (2+n)):=by unfold bA;rw [hv];rfl
 rw [e]
 rw [hv]at hb h1
 have ok:=aM (n:=2) hs
 have h2:=oT (n:=2+n) ok (by omega)
 rw [show((2+n:Nat):Int)=2+(n:Int) by omega]at h2
 have dm:=aDY (n:=2+n) ok
 have h4:=cM (xE (n:=2+n) ok (by omega)) dm.1 dm.2
 refine aD (E:=TE) 1 Tryz.func231 rfl (by simp [Tryz.f231]) fun X hn hX=>?_
 repeat'(first|refine wkQ ?_|refine Tw.f ?_ ?_|((with_reducible refine kaQ [.ptr 0 0,iv 12] ?_);refine kcQ aH ?_;refine kwQ (h0) [(0,0)] [] ?_)|((with_reducible refine kaQ [.ptr 0 0,iv 2] ?_);refine kcQ aH ?_;refine kwQ (h1) [(0,0)] [] ?_)|(refine kcQ nM ?_;refine kwQ (h2) [(0,0),(1,2)] [] ?_)|(refine kcQ bU ?_;refine kwQ (h4) [(0,3),(1,4),(2,5),(3,6)] [2] ?_)|(refine fun(hc:(_:Bool)=_)=>?_;try simp only [hcS]at hc))
 all_goals try exact om_
 all_goals try(exfalso;omega)
 (first|refine aB ?_|refine aA ?_);simp only [go_sem,simprocAttr,Tryz.f231]
theorem aAg {s z:RnS} (hs:RnOk s) (h0:Spec Tryz.prog 42 [.ptr 0 0,iv 12] [(0,bB z)] (iv 5) [(0,bB s)]):Spec Tryz.prog 231 [.ptr 0 0] [(0,bB z)] (.agg [iv (bA s 5).1.ob, .sl 1, .sl 2, .sl 3, .sl 4]) [(0,bB (bA s 5).2),(1,⟨1, .arr (ints (bA s 5).1.fr)⟩),(2,⟨1, .arr (ints (bA s 5).1.to)⟩),(3,⟨1, .arr (ints (bA s 5).1.id)⟩),(4,⟨1, .arr (aC (bA s 5).1.co)⟩)]:=by
 have hb:=aV (n:=3) hs (by decide)
 have h1:=aP (n:=3) hs
 obtain⟨n,hv⟩:∃n:Nat,aK s 3=n:=⟨(aK s 3).toNat,by omega⟩
 have e:bA s 5=(poC (nW (1+n)) (1+n),aL s 3):=by unfold bA;rw [hv];rfl
 rw [e]
 rw [hv]at hb h1
 have h4:=cM (aA7 (n:=1+n) (by omega)) all_dim.1 all_dim.2
 have ea:nW (1+n)=List.replicate (1+n) (List.replicate (1+n) 1):=rfl
 rw [ea]at h4⊢
 refine aD (E:=TE) 1 Tryz.func231 rfl (by simp [Tryz.f231]) fun X hn hX=>?_
 repeat'(first|refine wkQ ?_|refine Tw.f ?_ ?_|((with_reducible refine kaQ [.ptr 0 0,iv 12] ?_);refine kcQ aH ?_;refine kwQ (h0) [(0,0)] [] ?_)|((with_reducible refine kaQ [.ptr 0 0,iv 3] ?_);refine kcQ aH ?_;refine kwQ (h1) [(0,0)] [] ?_)|(refine fun(hc:(_:Bool)=_)=>?_;try simp only [hcS]at hc))
 all_goals try exact om_
 all_goals try(exfalso;omega)
 refine aG (G:={x:Nat//x≤(1+n)∧(True)}) (fun⟨x,_⟩=>[(5,iv x),(2, .ptr 1 0),(3,iv (1+(n:Int))),(4, .sl 2)]) [0] (fun⟨x,_⟩=>[(2,⟨1, .arr (aC (List.replicate x (List.replicate (1+n) 1)))⟩)]) [2] (fun zz=>(1+n)-zz.1) ⟨0,Nat.zero_le _,by trivial⟩ ?_ ?_
 ·exact Imp.auto hX (by simp [go_sem,simprocAttr,List.replicate_zero])
 rintro⟨x,hix,hwx⟩
 simp only [go_sem,simprocAttr]
 rcases Nat.lt_or_ge x (1+n)with hx1|hx1
 ·have e1:List.replicate (x+1) (List.replicate (1+n) (1:Int))=List.replicate x (List.replicate (1+n) 1)++[List.replicate (1+n) 1]:=List.replicate_succ'
  repeat'(first|refine wkQ ?_|refine Tw.f ?_ ?_|(refine fun(hc:(_:Bool)=_)=>?_;try simp only [hcS]at hc))
  all_goals try exact om_
  all_goals try(exfalso;omega)
  refine aG (G:={y:Nat//y≤(1+n)∧(True)}) (fun⟨y,_⟩=>[(7,iv y),(5,iv x),(2, .ptr 1 0),(3,iv (1+(n:Int))),(4, .sl 2),(6, .sl 3)]) [0] (fun⟨y,_⟩=>[(2,⟨1, .arr (aC (List.replicate x (List.replicate (1+n) 1)))⟩),(3,⟨1, .arr (ints (List.replicate y 1))⟩)]) [2,3] (fun zz=>(1+n)-zz.1) ⟨0,Nat.zero_le _,by trivial⟩ ?_ ?_
  ·exact Imp.auto hX (by simp [go_sem,simprocAttr,List.replicate_zero])
  rintro⟨y,hiy,hwy⟩
  simp only [go_sem,simprocAttr]
  rcases Nat.lt_or_ge y (1+n)with hy1|hy1
  ·have e2:List.replicate (y+1) (1:Int)=List.replicate y 1++[1]:=List.replicate_succ'
   repeat'(first|refine wkQ ?_|refine Tw.f ?_ ?_|(refine fun(hc:(_:Bool)=_)=>?_;try simp only [hcS]at hc))
   all_goals try exact om_
   all_goals try(exfalso;omega)
   refine⟨⟨y+1,by omega,(by(trivial))⟩,by simp only;omega,Imp.auto hX (by simp only [go_sem,simprocAttr,e2])⟩
  ·obtain rfl:y=1+n:=by omega
   repeat'(first|refine wkQ ?_|refine Tw.f ?_ ?_|(refine fun(hc:(_:Bool)=_)=>?_;try simp only [hcS]at hc))
   all_goals try exact om_
   all_goals try(exfalso;omega)
   refine⟨⟨x+1,by omega,(by(trivial))⟩,by simp only;omega,Imp.auto hX (by simp only [go_sem,simprocAttr,e1])⟩
 ·obtain rfl:x=1+n:=by omega
  repeat'(first|refine wkQ ?_|refine Tw.f ?_ ?_|(refine kcQ bU ?_;refine kwQ (h4) [(0,3),(1,4),(2,5),(3,6)] [2] ?_)|(refine fun(hc:(_:Bool)=_)=>?_;try simp only [hcS]at hc))
  all_goals try exact om_
  all_goals try(exfalso;omega)
  (first|refine aB ?_|refine aA ?_);simp only [go_sem,simprocAttr,Tryz.f231]
theorem vX {s z:RnS} (hs:RnOk s) (h0:Spec Tryz.prog 42 [.ptr 0 0,iv 12] [(0,bB z)] (iv 11) [(0,bB s)]):Spec Tryz.prog 231 [.ptr 0 0] [(0,bB z)] (.agg [iv (bA s 11).1.ob, .sl 1, .sl 2, .sl 3, .sl 4]) [(0,bB (bA s 11).2),(1,⟨1, .arr (ints (bA s 11).1.fr)⟩),(2,⟨1, .arr (ints (bA s 11).1.to)⟩),(3,⟨1, .arr (ints (bA s 11).1.id)⟩),(4,⟨1, .arr (aC (bA s 11).1.co)⟩)]:=by
 have hb:=aV (n:=2) hs (by decide)
 have h1:=aP (n:=2) hs
 have ok1:=aM (n:=2) hs
 have hc4:=aV (n:=4) ok1 (by decide)
 have h2:=aP (n:=4) ok1
 have ok2:=aM (n:=4) ok1
 obtain⟨m,hv⟩:∃n:Nat,aK s 2=n:=⟨(aK s 2).toNat,by omega⟩
 obtain⟨q,hq⟩:∃n:Nat,aK (aL s 2) 4=n:=⟨(aK (aL s 2) 4).toNat,by omega⟩
 obtain⟨r,hr⟩:∃r,aL (aL s 2) 4=r:=⟨_,rfl⟩
 have e:bA s 11=(ptC (2+m) (gJ (2+m) (grG r (2+(m:Int)) q).1 (grG r (2+(m:Int)) q).2.1),(grG r (2+(m:Int)) q).2.2):=by
  have hN:((2+(aK s 2).toNat:Nat):Int)=2+(m:Int):=by omega
  have hM:(aK s 2).toNat=m:=by omega
  have hQ:(aK (aL s 2) 4).toNat=q:=by omega
  show(ptC (2+(aK s 2).toNat) (gJ (2+(aK s 2).toNat) (grG (aL (aL s 2) 4) ((2+(aK s 2).toNat:Nat):Int) (aK (aL s 2) 4).toNat).1 (grG (aL (aL s 2) 4) ((2+(aK s 2).toNat:Nat):Int) (aK (aL s 2) 4).toNat).2.1),(grG (aL (aL s 2) 4) ((2+(aK s 2).toNat:Nat):Int) (aK (aL s 2) 4).toNat).2.2)=_
  rw [hN,hM,hQ,hr]
 rw [e]
 rw [hv]at hb h1
 rw [hq]at hc4 h2
 rw [hr]at h2 ok2
 have hgr:=aE0 (n:=2+m) (k:=q) ok2 (by omega) (by omega)
 rw [show((2+m:Nat):Int)=2+(m:Int) by omega]at hgr
 have h4:=oU hgr
 rw [show((2+m:Nat):Int)=2+(m:Int) by omega]at h4
 refine aD (E:=TE) 1 Tryz.func231 rfl (by simp [Tryz.f231]) fun X hn hX=>?_
 repeat'(first|refine wkQ ?_|refine Tw.f ?_ ?_|((with_reducible refine kaQ [.ptr 0 0,iv 12] ?_);refine kcQ aH ?_;refine kwQ (h0) [(0,0)] [] ?_)|((with_reducible refine kaQ [.ptr 0 0,iv 2] ?_);refine kcQ aH ?_;refine kwQ (h1) [(0,0)] [] ?_)|((with_reducible refine kaQ [.ptr 0 0,iv 4] ?_);refine kcQ aH ?_;refine kwQ (h2) [(0,0)] [] ?_)|(refine fun(hc:(_:Bool)=_)=>?_;try simp only [hcS]at hc))
 all_goals try exact om_
 all_goals try(exfalso;omega)
 refine aG (G:={k:Nat//k≤q}) (fun k=>[(11,iv ((q:Int)-(k.1:Int))),(0, .ptr 0 0),(2, .ptr 1 0),(8,iv (2+(m:Int))),(9, .sl 2),(10, .sl 3)]) [] (fun k=>[(0,bB (grG r (2+(m:Int)) k.1).2.2),(2,⟨1, .arr (ints (grG r (2+(m:Int)) k.1).1)⟩),(3,⟨1, .arr (ints (grG r (2+(m:Int)) k.1).2.1)⟩)]) [0,2,3] (fun k=>q-k.1) ⟨0,Nat.zero_le _⟩ ?_ ?_
 ·exact Imp.auto hX (by simp [go_sem,simprocAttr,grG])
 rintro⟨k,hk⟩
 simp only [go_sem,simprocAttr]
 have okk:=yT (n:=2+(m:Int)) ok2 k
 rcases Nat.lt_or_ge k q with hk1|hk1
 ·obtain⟨a,ha⟩:∃a,aK (grG r (2+(m:Int)) k).2.2 (2+(m:Int)-1)=a:=⟨_,rfl⟩
  have ba:=aV (n:=2+(m:Int)-1) okk (by omega)
  have h5:=aP (n:=2+(m:Int)-1) okk
  have ok5:=aM (n:=2+(m:Int)-1) okk
  rw [ha]at ba h5
  have bb:=aV (n:=2+(m:Int)-1-a) ok5 (by omega)
  have h6:=aP (n:=2+(m:Int)-1-a) ok5
  have l1:=mH (s:=r) (n:=2+(m:Int)) k
  have l2:=sB (s:=r) (n:=2+(m:Int)) k
  have eG:grG r (2+(m:Int)) (k+1)=((grG r (2+(m:Int)) k).1++[a],(grG r (2+(m:Int)) k).2.1++[a+1+aK (aL (grG r (2+(m:Int)) k).2.2 (2+(m:Int)-1)) (2+(m:Int)-1-a)],aL (aL (grG r (2+(m:Int)) k).2.2 (2+(m:Int)-1)) (2+(m:Int)-1-a)):=by rw [grG];simp only [ha]
  have eN:(q:Int)-(k:Int)-1=(q:Int)-((k+1:Nat):Int):=by omega
  repeat'(first|refine wkQ ?_|refine Tw.f ?_ ?_|((with_reducible refine kaQ [.ptr 0 0,iv (2+(m:Int)-1)] ?_);refine kcQ aH ?_;refine kwQ (h5) [(0,0)] [] ?_)|((with_reducible refine kaQ [.ptr 0 0,iv (2+(m:Int)-1-a)] ?_);refine kcQ aH ?_;refine kwQ (h6) [(0,0)] [] ?_)|(refine fun(hc:(_:Bool)=_)=>?_;try simp only [hcS]at hc))
  all_goals try exact om_
  all_goals try(exfalso;omega)
  exact⟨⟨k+1,by omega⟩,by simp only;omega,Imp.auto hX (by simp only [go_sem,simprocAttr,eG,eN])⟩
 ·obtain rfl:k=q:=by omega
  repeat'(first|refine wkQ ?_|refine Tw.f ?_ ?_|(refine kcQ mS ?_;refine kwQ (h4) [(0,4),(1,5),(2,6),(3,7)] [2,3] ?_)|(refine fun(hc:(_:Bool)=_)=>?_;try simp only [hcS]at hc))
  all_goals try exact om_
  all_goals try(exfalso;omega)
  (first|refine aB ?_|refine aA ?_);simp only [go_sem,simprocAttr,Tryz.f231]
theorem aL3 {s:RnS} (h:RnOk s):∀{k:Nat},k<12→RnOk (bA s k).2∧IsCat (bA s k).1∧(bA s k).1.ob≤5:=fun {k} hk=>by
 have b2:=aV (n:=2) h (by decide)
 have b3:=aV (n:=3) h (by decide)
 have b5:=aV (n:=5) h (by decide)
 have o2:=aM (n:=2) h
 have o5:=aM (n:=5) h
 have b4:=aV (n:=4) o2 (by decide)
 have hg:=aE0 (n:=2+(aK s 2).toNat) (k:=(aK (aL s 2) 4).toNat) (aM (n:=4) o2) (by omega) (by omega)
 obtain rfl|rfl|rfl|rfl|rfl|rfl|rfl|rfl|rfl|rfl|rfl|rfl:k=0∨k=1∨k=2∨k=3∨k=4∨k=5∨k=6∨k=7∨k=8∨k=9∨k=10∨k=11:=by omega
 ·exact⟨aGA o5,(xE o5 (by omega)).cat,by show(((aK s 5).toNat:Nat):Int)≤5;omega⟩
 ·exact⟨h,po2.cat,by show((2:Nat):Int)≤5;omega⟩
 ·exact⟨h,po3.cat,by show((3:Nat):Int)≤5;omega⟩
 ·exact⟨h,gr_fix.cat,by show((2:Nat):Int)≤5;omega⟩
 ·exact⟨aM (n:=8) h,aE9 _,by show(1:Int)≤5;omega⟩
 ·exact⟨aM (n:=3) h,(aA7 (by omega)).cat,by show((1+(aK s 3).toNat:Nat):Int)≤5;omega⟩
 ·exact⟨h,gr_fix3.cat,by show((3:Nat):Int)≤5;omega⟩
 ·exact⟨h,aM8,by show(2:Int)≤5;omega⟩
 ·exact⟨aM (n:=8) h,aJ2 _,by show(1:Int)+((1:Nat):Int)≤5;omega⟩
 ·exact⟨aM (n:=8) h,aJD _,by show(1:Int)+((1:Nat):Int)≤5;omega⟩
 ·exact⟨aGA o2,(xE o2 (by omega)).cat,by show((2+(aK s 2).toNat:Nat):Int)≤5;omega⟩
 ·exact⟨yT (aM o2) _,hg.cat,by show((2+(aK s 2).toNat:Nat):Int)≤5;omega⟩
theorem mV {s:RnS} (h:RnOk s):RnOk (gU s).2∧IsCat (gU s).1∧(gU s).1.ob≤5:=by
 have b:=aV (n:=12) h (by decide)
 exact aL3 (aM h) (by omega)
theorem jK {z:RnS} (hz:RnOk z):Spec Tryz.prog 231 [.ptr 0 0] [(0,bB z)] (.agg [iv (gU z).1.ob, .sl 1, .sl 2, .sl 3, .sl 4]) [(0,bB (gU z).2),(1,⟨1, .arr (ints (gU z).1.fr)⟩),(2,⟨1, .arr (ints (gU z).1.to)⟩),(3,⟨1, .arr (ints (gU z).1.id)⟩),(4,⟨1, .arr (aC (gU z).1.co)⟩)]:=by
 have b:=aV (n:=12) hz (by decide)
 have h0:=aP (n:=12) hz
 have ok:=aM (n:=12) hz
 unfold gU
 obtain⟨k,hk⟩:∃n:Nat,aK z 12=n:=⟨(aK z 12).toNat,by omega⟩
 rw [hk]at b h0⊢
 rw [Int.toNat_natCast]
 obtain rfl|rfl|rfl|rfl|rfl|rfl|rfl|rfl|rfl|rfl|rfl|rfl:k=0∨k=1∨k=2∨k=3∨k=4∨k=5∨k=6∨k=7∨k=8∨k=9∨k=10∨k=11:=by omega
 ·exact aAb ok h0
 ·exact aAc ok h0
 ·exact aAd ok h0
 ·exact aAe ok h0
 ·exact aAf ok h0
 ·exact aAg ok h0
 ·exact aAi ok h0
 ·exact aAj ok h0
 ·exact aAk ok h0
 ·exact aAl ok h0
 ·exact vW ok h0
 ·exact vX ok h0
end Go.Eng
end
section
namespace Go.Eng
open Go Go.Proofs Go.Cats
namespace Zp
theorem cP:aF Tryz.prog 233:=⟨_,Tryz.func233,rfl,rfl⟩
theorem aDK {x n:Int} (h0:0≤x) (h1:x≤64) (h2:0≤n) (h3:n≤64):0≤x*n∧x*n≤4096:=
 ⟨Int.mul_nonneg h0 h2,Int.mul_le_mul h1 h3 h2 (by omega)⟩
attribute [local go_sem] List.set_cons_zero List.set_cons_succ aMN aKk aKi
theorem sp_l03Product {c d:Cat} (sc:Shape c) (sd:Shape d):Spec Tryz.prog 233 [jX c,jX d] [] (.agg [iv (prC c d).ob, .sl 0, .sl 1, .sl 2, .sl 3]) [(0,⟨1, .arr (ints (prC c d).fr)⟩),(1,⟨1, .arr (ints (prC c d).to)⟩),(2,⟨1, .arr (ints (prC c d).id)⟩),(3,⟨1, .arr (aC (prC c d).co)⟩)]:=by
 have c0:=sc.ob0
 have c8:=sc.ob8
 have c40:=sc.m40
 have ctl:=sc.tol
 have cil:=sc.idl
 have ccl:=sc.col
 have d0:=sd.ob0
 have d8:=sd.ob8
 have d40:=sd.m40
 have dtl:=sd.tol
 have dil:=sd.idl
 have dcl:=sd.col
 have e0:=aDK c0 (by omega) d0 (by omega)
 have eP:prC c d=⟨c.ob*d.ob,pq d.fr.length c.fr d.fr d.ob (c.fr.length*d.fr.length),pq d.fr.length c.to d.to d.ob (c.fr.length*d.fr.length),pq d.id.length c.id d.id d.fr.length (c.id.length*d.id.length),prT c d (c.fr.length*d.fr.length)⟩:=rfl
 rw [eP]
 refine aD (E:=TE) 0 Tryz.func233 rfl (by simp [Tryz.f233]) fun X hn hX=>?_
 repeat'(first|refine wkQ ?_|refine Tw.f ?_ ?_|(refine fun(hc:(_:Bool)=_)=>?_;try simp only [hcS]at hc))
 all_goals try exact om_
 refine aG (G:={i:Nat//i≤c.ob.toNat∧(True)}) (fun⟨i,_⟩=>[(8,iv i),(4, .ptr 2 0),(7, .ptr 7 0)]) [2,3,5,6] (fun⟨i,_⟩=>[(7,⟨1, .box [iv (c.ob*d.ob), .sl 3, .sl 4, .sl 5, .sl 6]⟩),(3,⟨1, .arr (ints [])⟩),(4,⟨1, .arr (ints [])⟩),(5,⟨1, .arr (ints (pq d.id.length c.id d.id d.fr.length (i*d.id.length)))⟩),(6,⟨1, .arr (aC [])⟩)]) [3,4,5,6,7] (fun zz=>c.ob.toNat-zz.1) ⟨0,Nat.zero_le _,by trivial⟩ ?_ ?_
 ·exact Imp.auto hX (by simp [go_sem,simprocAttr,Nat.zero_mul])
 rintro⟨i,hii,hwi⟩
 simp only [go_sem,simprocAttr]
 rcases Nat.lt_or_ge i c.ob.toNat with hli|hgi
 ·repeat'(first|refine wkQ ?_|refine Tw.f ?_ ?_|(refine fun(hc:(_:Bool)=_)=>?_;try simp only [hcS]at hc))
  all_goals try exact om_
  refine aG (G:={j:Nat//j≤d.ob.toNat∧(True)}) (fun⟨j,_⟩=>[(9,iv j),(4, .ptr 2 0),(7, .ptr 7 0),(8,iv i)]) [2,3,5,6] (fun⟨j,_⟩=>[(7,⟨1, .box [iv (c.ob*d.ob), .sl 3, .sl 4, .sl 5, .sl 6]⟩),(3,⟨1, .arr (ints [])⟩),(4,⟨1, .arr (ints [])⟩),(5,⟨1, .arr (ints (pq d.id.length c.id d.id d.fr.length (i*d.id.length+j)))⟩),(6,⟨1, .arr (aC [])⟩)]) [3,4,5,6,7] (fun zz=>d.ob.toNat-zz.1) ⟨0,Nat.zero_le _,by first|trivial|simp⟩ ?_ ?_
  ·exact Imp.au hX
  rintro⟨j,hij,hwj⟩
  simp only [go_sem,simprocAttr]
  have hln:=rA (n:=d.id.length) (x:=c.id) (y:=d.id) (w:=(d.fr.length:Int)) (k:=i*d.id.length+j)
  have hle:i*d.id.length+j≤64:=by
   have:=Nat.mul_le_mul_right d.id.length (show i+1≤8 by omega)
   rw [Nat.succ_mul]at this
   omega
  rcases Nat.lt_or_ge j d.ob.toNat with hlj|hgj
  ·have w1:=sc.idw i (by omega)
   have w2:=sd.idw j (by omega)
   have e1:=aDK (x:=c.id.getD i 0) (n:=(d.fr.length:Int)) w1.1 (by omega) (by omega) (by omega)
   have e2:=aCu (n:=d.id.length) (x:=c.id) (y:=d.id) (w:=(d.fr.length:Int)) (i:=i) (j:=j) (by omega)
   repeat'(first|refine wkQ ?_|refine Tw.f ?_ ?_|(refine fun(hc:(_:Bool)=_)=>?_;try simp only [hcS]at hc))
   all_goals try exact om_
   ·refine⟨⟨j+1,by omega,(by trivial)⟩,by simp only;omega,Imp.auto hX (by simp only [go_sem,simprocAttr,e2])⟩
  ·have ej:j=d.id.length:=by omega
   subst ej
   have e3:i*d.id.length+d.id.length=(i+1)*d.id.length:=(Nat.succ_mul _ _).symm
   repeat'(first|refine wkQ ?_|refine Tw.f ?_ ?_|(refine fun(hc:(_:Bool)=_)=>?_;try simp only [hcS]at hc))
   all_goals try exact om_
   ·refine⟨⟨i+1,by omega,(by(trivial))⟩,by simp only;omega,Imp.auto hX (by simp only [go_sem,simprocAttr,e3])⟩
 ·have ei:i=c.ob.toNat:=by omega
  subst ei
  repeat'(first|refine wkQ ?_|refine Tw.f ?_ ?_|(refine fun(hc:(_:Bool)=_)=>?_;try simp only [hcS]at hc))
  all_goals try exact om_
  refine aG (G:={a:Nat//a≤c.fr.length∧(True)}) (fun⟨a,_⟩=>[(10,iv a),(4, .ptr 2 0),(7, .ptr 7 0)]) [2,3,5,6] (fun⟨a,_⟩=>[(7,⟨1, .box [iv (c.ob*d.ob), .sl 3, .sl 4, .sl 5, .sl 6]⟩),(3,⟨1, .arr (ints (pq d.fr.length c.fr d.fr d.ob (a*d.fr.length)))⟩),(4,⟨1, .arr (ints (pq d.fr.length c.to d.to d.ob (a*d.fr.length)))⟩),(5,⟨1, .arr (ints (pq d.id.length c.id d.id d.fr.length (c.ob.toNat*d.id.length)))⟩),(6,⟨1, .arr (aC (prT c d (a*d.fr.length)))⟩)]) [3,4,5,6,7] (fun zz=>c.fr.length-zz.1) ⟨0,Nat.zero_le _,by trivial⟩ ?_ ?_
  ·exact Imp.auto hX (by simp [go_sem,simprocAttr,Nat.zero_mul])
  rintro⟨a,hia,hwa⟩
  simp only [go_sem,simprocAttr]
  rcases Nat.lt_or_ge a c.fr.length with hla|hga
  ·repeat'(first|refine wkQ ?_|refine Tw.f ?_ ?_|(refine fun(hc:(_:Bool)=_)=>?_;try simp only [hcS]at hc))
   all_goals try exact om_
   refine aG (G:={b:Nat//b≤d.fr.length∧(True)}) (fun⟨b,_⟩=>[(11,iv b),(4, .ptr 2 0),(7, .ptr 7 0),(10,iv a)]) [2,3,5,6] (fun⟨b,_⟩=>[(7,⟨1, .box [iv (c.ob*d.ob), .sl 3, .sl 4, .sl 5, .sl 6]⟩),(3,⟨1, .arr (ints (pq d.fr.length c.fr d.fr d.ob (a*d.fr.length+b)))⟩),(4,⟨1, .arr (ints (pq d.fr.length c.to d.to d.ob (a*d.fr.length+b)))⟩),(5,⟨1, .arr (ints (pq d.id.length c.id d.id d.fr.length (c.ob.toNat*d.id.length)))⟩),(6,⟨1, .arr (aC (prT c d (a*d.fr.length+b)))⟩)]) [3,4,5,6,7] (fun zz=>d.fr.length-zz.1) ⟨0,Nat.zero_le _,by first|trivial|simp⟩ ?_ ?_
   ·exact Imp.au hX
   rintro⟨b,hib,hwb⟩
   simp only [go_sem,simprocAttr]
   have hle:a*d.fr.length+b≤1640:=by
    have:=Nat.mul_le_mul hla d40
    rw [Nat.succ_mul]at this
    omega
   have l1:=rA (n:=d.fr.length) (x:=c.fr) (y:=d.fr) (w:=d.ob) (k:=a*d.fr.length+b)
   have l2:=rA (n:=d.fr.length) (x:=c.to) (y:=d.to) (w:=d.ob) (k:=a*d.fr.length+b)
   have l3:=aGw (c:=c) (d:=d) (k:=a*d.fr.length+b)
   rcases Nat.lt_or_ge b d.fr.length with hlb|hgb
   ·have w1:=sc.frw a hla
    have w2:=sd.frw b hlb
    have w3:=sc.tow a (by omega)
    have w4:=sd.tow b (by omega)
    have e1:=aDK (x:=c.fr.getD a 0) (n:=d.ob) w1.1 (by omega) (by omega) (by omega)
    have e2:=aDK (x:=c.to.getD a 0) (n:=d.ob) w3.1 (by omega) (by omega) (by omega)
    have p1:=aCu (n:=d.fr.length) (x:=c.fr) (y:=d.fr) (w:=d.ob) (i:=a) (j:=b) hlb
    have p2:=aCu (n:=d.fr.length) (x:=c.to) (y:=d.to) (w:=d.ob) (i:=a) (j:=b) hlb
    have r1:=(sc.coe a hla).1
    have r2:=(sd.coe b hlb).1
    repeat'(first|refine wkQ ?_|refine Tw.f ?_ ?_|(refine fun(hc:(_:Bool)=_)=>?_;try simp only [hcS]at hc))
    all_goals try exact om_
    refine aG (G:={k:Nat//k≤c.fr.length∧(True)}) (fun⟨k,_⟩=>[(13,iv k),(4, .ptr 2 0),(7, .ptr 7 0),(10,iv a),(11,iv b),(12, .sl 12),(88, .sl 8),(106, .sl 10)]) [2,3,5,6] (fun⟨k,_⟩=>[(7,⟨1, .box [iv (c.ob*d.ob), .sl 9, .sl 11, .sl 5, .sl 6]⟩),(9,⟨1, .arr (ints (pq d.fr.length c.fr d.fr d.ob (a*d.fr.length+(b+1))))⟩),(11,⟨1, .arr (ints (pq d.fr.length c.to d.to d.ob (a*d.fr.length+(b+1))))⟩),(5,⟨1, .arr (ints (pq d.id.length c.id d.id d.fr.length (c.ob.toNat*d.id.length)))⟩),(6,⟨1, .arr (aC (prT c d (a*d.fr.length+b)))⟩),(12,⟨1, .arr (ints (prW c d (a*d.fr.length+b) (k*d.fr.length)))⟩)]) [5,6,7,9,11,12] (fun zz=>c.fr.length-zz.1) ⟨0,Nat.zero_le _,by trivial⟩ ?_ ?_
    ·exact Imp.auto hX (by simp [go_sem,simprocAttr,Nat.zero_mul,p1,p2])
    rintro⟨k,hik,hwk⟩
    simp only [go_sem,simprocAttr]
    rcases Nat.lt_or_ge k c.fr.length with hlk|hgk
    ·repeat'(first|refine wkQ ?_|refine Tw.f ?_ ?_|(refine fun(hc:(_:Bool)=_)=>?_;try simp only [hcS]at hc))
     all_goals try exact om_
     refine aG (G:={l:Nat//l≤d.fr.length∧(True)}) (fun⟨l,_⟩=>[(14,iv l),(4, .ptr 2 0),(7, .ptr 7 0),(10,iv a),(11,iv b),(12, .sl 12),(13,iv k),(88, .sl 8),(106, .sl 10)]) [2,3,5,6] (fun⟨l,_⟩=>[(7,⟨1, .box [iv (c.ob*d.ob), .sl 9, .sl 11, .sl 5, .sl 6]⟩),(9,⟨1, .arr (ints (pq d.fr.length c.fr d.fr d.ob (a*d.fr.length+(b+1))))⟩),(11,⟨1, .arr (ints (pq d.fr.length c.to d.to d.ob (a*d.fr.length+(b+1))))⟩),(5,⟨1, .arr (ints (pq d.id.length c.id d.id d.fr.length (c.ob.toNat*d.id.length)))⟩),(6,⟨1, .arr (aC (prT c d (a*d.fr.length+b)))⟩),(12,⟨1, .arr (ints (prW c d (a*d.fr.length+b) (k*d.fr.length+l)))⟩)]) [5,6,7,9,11,12] (fun zz=>d.fr.length-zz.1) ⟨0,Nat.zero_le _,by first|trivial|simp⟩ ?_ ?_
     ·exact Imp.au hX
     rintro⟨l,hil,hwl⟩
     simp only [go_sem,simprocAttr]
     have l4:=aGx (c:=c) (d:=d) (k:=a*d.fr.length+b) (l:=k*d.fr.length+l)
     have hke:k*d.fr.length+l≤1640:=by
      have:=Nat.mul_le_mul hlk d40
      rw [Nat.succ_mul]at this
      omega
     rcases Nat.lt_or_ge l d.fr.length with hll|hgl
     ·have x1:=(sc.coe a hla).2 k hlk
      have x2:=(sd.coe b hlb).2 l hll
      have p3:=aKj (c:=c) (d:=d) (i:=a) (j:=b) (a:=k) (b:=l) hlb hll
      simp only [Cat.Entry,Cat.F,Cat.T,Cat.C,Int.toNat_natCast]at x1 x2 p3
      by_cases q:0≤(c.co.getD a []).getD k 0∧0≤(d.co.getD b []).getD l 0
      ·rw [if_pos q]at p3
       have e3:=aDK (x:=(c.co.getD a []).getD k 0) (n:=(d.fr.length:Int)) q.1 (by omega) (by omega) (by omega)
       repeat'(first|(exfalso;omega)|(with_reducible first|refine St.f ?_|refine V_c ?_|refine eDn ?_|refine And.intro ?_ ?_|refine aI ?_ ?_|refine aN ?_)|((refine aQ ?_);intro K hK)|((with_reducible refine So.f ?_);intro K hK;simp(contextual:=true)only [go_sem,simprocAttr])|((with_reducible refine hK _ ?_);clear hK K)|(refine fun(hc:(_:Bool)=_)=>?_;try simp only [hcS]at hc))
       all_goals try exact om_
       ·refine⟨⟨l+1,by omega,(by trivial)⟩,by simp only;omega,Imp.auto hX (by simp only [go_sem,simprocAttr,p3])⟩
      ·rw [if_neg q]at p3
       repeat'(first|(exfalso;omega)|(with_reducible first|refine St.f ?_|refine V_c ?_|refine eDn ?_|refine And.intro ?_ ?_|refine aI ?_ ?_|refine aN ?_)|((refine aQ ?_);intro K hK)|((with_reducible refine So.f ?_);intro K hK;simp(contextual:=true)only [go_sem,simprocAttr])|((with_reducible refine hK _ ?_);clear hK K)|(refine fun(hc:(_:Bool)=_)=>?_;try simp only [hcS]at hc))
       all_goals try exact om_
       all_goals(refine⟨⟨l+1,by omega,(by trivial)⟩,by simp only;omega,Imp.auto hX (by simp only [go_sem,simprocAttr,p3])⟩)
     ·have el:l=d.fr.length:=by omega
      subst el
      have e3:k*d.fr.length+d.fr.length=(k+1)*d.fr.length:=(Nat.succ_mul _ _).symm
      repeat'(first|refine wkQ ?_|refine Tw.f ?_ ?_|(refine fun(hc:(_:Bool)=_)=>?_;try simp only [hcS]at hc))
      all_goals try exact om_
      ·refine⟨⟨k+1,by omega,(by(trivial))⟩,by simp only;omega,Imp.auto hX (by simp only [go_sem,simprocAttr,e3])⟩
    ·have ek:k=c.fr.length:=by omega
     subst ek
     have p4:=aKg (c:=c) (d:=d) (i:=a) (j:=b)
     repeat'(first|refine wkQ ?_|refine Tw.f ?_ ?_|(refine fun(hc:(_:Bool)=_)=>?_;try simp only [hcS]at hc))
     all_goals try exact om_
     ·refine⟨⟨b+1,by omega,(by(trivial))⟩,by simp only;omega,Imp.auto hX (by simp only [go_sem,simprocAttr,p4])⟩
   ·have eb:b=d.fr.length:=by omega
    subst eb
    have e3:a*d.fr.length+d.fr.length=(a+1)*d.fr.length:=(Nat.succ_mul _ _).symm
    repeat'(first|refine wkQ ?_|refine Tw.f ?_ ?_|(refine fun(hc:(_:Bool)=_)=>?_;try simp only [hcS]at hc))
    all_goals try exact om_
    ·refine⟨⟨a+1,by omega,(by(trivial))⟩,by simp only;omega,Imp.auto hX (by simp only [go_sem,simprocAttr,e3])⟩
  ·have ea:a=c.fr.length:=by omega
   subst ea
   have ei2:c.ob.toNat=c.id.length:=by omega
   rw [ei2]
   repeat'(first|refine wkQ ?_|refine Tw.f ?_ ?_|(refine fun(hc:(_:Bool)=_)=>?_;try simp only [hcS]at hc))
   all_goals try exact om_
   ·(first|refine aB ?_|refine aA ?_);simp only [go_sem,simprocAttr,Tryz.f233]
end Zp
end Go.Eng
namespace Go.Cats
theorem aJj:((List.range 4).all fun k=>(grs 2 k).all fun g=>decide ((gJ 2 g.1 g.2).length≤16))=true:=by decide+kernel
theorem aJk:((List.range 4).all fun k=>(grs 3 k).all fun g=>decide ((gJ 3 g.1 g.2).length≤16))=true:=by decide+kernel
theorem GrOk.few2 {n:Nat} {fr to:List Int} (h:GrOk n fr to):(gJ n fr to).length≤16:=by
 have hm:=wX h.n2 fr.length fr to rfl h.tol h.edge
 have hl:=h.len
 rcases h.n2 with rfl|rfl
 ·have:=List.all_eq_true.1 (List.all_eq_true.1 aJj fr.length (List.mem_range.2 (by omega))) _ hm
  simpa using this
 ·have:=List.all_eq_true.1 (List.all_eq_true.1 aJk fr.length (List.mem_range.2 (by omega))) _ hm
  simpa using this
theorem zH {R:List (List Int)} {n:Nat} (hn:n≤4):(poC R n).fr.length≤16:=by
 have h1:=zE (R:=R) (n:=n) n
 have h2:n*n≤16:=Nat.mul_le_mul hn hn
 have h3:(poC R n).fr.length=(poA R n n).length:=by unfold poC fN;simp
 omega
theorem aOL (k:Nat):(moC (moT k)).fr.length≤16:=jP (fun t=>(moC t).fr.length≤16) (fun i hi=>by
 obtain rfl|rfl|rfl|rfl|rfl|rfl|rfl|rfl:i=0∨i=1∨i=2∨i=3∨i=4∨i=5∨i=6∨i=7:=by omega
 all_goals decide) k
theorem aJE (k:Nat):(jnC (moC (moT k)) one1).fr.length≤16∧(jnC (moC (moT k)) one1).to.length≤16:=jP (fun t=>(jnC (moC t) one1).fr.length≤16∧(jnC (moC t) one1).to.length≤16) (fun i hi=>by
 obtain rfl|rfl|rfl|rfl|rfl|rfl|rfl|rfl:i=0∨i=1∨i=2∨i=3∨i=4∨i=5∨i=6∨i=7:=by omega
 all_goals decide) k
end Go.Cats
namespace Go.Eng
open Go.Cats
theorem aIZ {s:RnS} (h:RnOk s):∀{k:Nat},k<12→(bA s k).1.ob≤4∧(bA s k).1.fr.length≤16:=fun {k} hk=>by
 have b2:=aV (n:=2) h (by decide)
 have b3:=aV (n:=3) h (by decide)
 have b5:=aV (n:=5) h (by decide)
 have o2:=aM (n:=2) h
 have b4:=aV (n:=4) o2 (by decide)
 have hg:=aE0 (n:=2+(aK s 2).toNat) (k:=(aK (aL s 2) 4).toNat) (aM (n:=4) o2) (by omega) (by omega)
 obtain rfl|rfl|rfl|rfl|rfl|rfl|rfl|rfl|rfl|rfl|rfl|rfl:k=0∨k=1∨k=2∨k=3∨k=4∨k=5∨k=6∨k=7∨k=8∨k=9∨k=10∨k=11:=by omega
 ·exact⟨by show(((aK s 5).toNat:Nat):Int)≤4;omega,zH (by omega)⟩
 ·exact⟨by show((2:Nat):Int)≤4;omega,zH (by omega)⟩
 ·exact⟨by show((3:Nat):Int)≤4;omega,zH (by omega)⟩
 ·exact⟨by show((2:Nat):Int)≤4;omega,by show((gJ 2 [0,0] [1,1]).map (·.1)).length≤16;rw [List.length_map];exact gr_fix.few2⟩
 ·exact⟨by show(1:Int)≤4;omega,aOL _⟩
 ·exact⟨by show((1+(aK s 3).toNat:Nat):Int)≤4;omega,zH (by omega)⟩
 ·exact⟨by show((3:Nat):Int)≤4;omega,by show((gJ 3 [0,1,0] [1,2,2]).map (·.1)).length≤16;rw [List.length_map];exact gr_fix3.few2⟩
 ·exact⟨by show(2:Int)≤4;omega,by show splC.fr.length≤16;decide⟩
 ·exact⟨by show(1:Int)+((1:Nat):Int)≤4;omega,(aJE _).2⟩
 ·exact⟨by show(1:Int)+((1:Nat):Int)≤4;omega,(aJE _).1⟩
 ·exact⟨by show((2+(aK s 2).toNat:Nat):Int)≤4;omega,zH (by omega)⟩
 ·exact⟨by show((2+(aK s 2).toNat:Nat):Int)≤4;omega,by
   show(List.map (·.1) (gJ _ _ _)).length≤16
   rw [List.length_map];exact hg.few2⟩
theorem aDl {s:RnS} (h:RnOk s):(gU s).1.ob≤4∧(gU s).1.fr.length≤16:=by
 have b:=aV (n:=12) h (by decide)
 exact aIZ (aM h) (by omega)
end Go.Eng
end
