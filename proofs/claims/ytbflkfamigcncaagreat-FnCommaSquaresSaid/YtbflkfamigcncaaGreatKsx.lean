/- Maps and functors one behind the other, by the program and by the reference. -/
import Derived.Test.YtbflkfamigcncaaGreatC18q
set_option linter.unusedSimpArgs false
set_option linter.unusedVariables false
set_option maxRecDepth 100000
set_option maxHeartbeats 16000000
namespace Go.Eng
open Go Go.Proofs Go.Cats
def _root_.Go.Cats.thn (f g:List Int):List Int:=f.map fun y=>g.getD y.toNat 0
def _root_.Go.Cats.thF (f g:Fun):Fun:=⟨f.src,g.tgt,thn f.obs g.obs,thn f.ars g.ars⟩
theorem _root_.Go.Cats.thn_len (f g:List Int):(thn f g).length=f.length:=by unfold thn;rw [List.length_map]
theorem _root_.Go.Cats.thn_at {f g:List Int} {i:Nat} (hi:i<f.length):(thn f g).getD i 0=g.getD (f.getD i 0).toNat 0:=by
 unfold thn
 rw [List.getD_eq_getElem?_getD,List.getElem?_map,List.getElem?_eq_getElem hi,List.getD_eq_getElem?_getD (l:=f),List.getElem?_eq_getElem hi];rfl
theorem _root_.Go.Cats.thn_in {f g:List Int} {n:Int} (h:Within f g.length) (k:Within g n):Within (thn f g) n:=fun i hi=>by
 rw [thn_len]at hi
 rw [thn_at hi]
 have:=h i hi
 exact k _ (by omega)
theorem aLX (g:List Int):thn [] g=[]:=rfl
attribute [local go_sem] List.set_cons_zero List.set_cons_succ aLX
theorem aDE:aF Tryz.prog 157:=⟨_,Tryz.func157,rfl,rfl⟩
theorem aGG {f g:List Int} (hf:f.length≤1048576) (hg:g.length≤1048576) (hw:Within f g.length):Spec Tryz.prog 157 [.bor [] (ints f), .bor [] (ints g)] [] (.sl 0) [(0,⟨1, .arr (ints (thn f g))⟩)]:=by
 refine aD (E:=TE) 0 Tryz.func157 rfl (by simp [Tryz.f157]) fun X hn hX=>?_
 obtain⟨p,hp⟩:∃p,thn f g=p:=⟨_,rfl⟩
 have hpl:p.length=f.length:=by rw [←hp,thn_len]
 have hpa:∀i,i<f.length→p.getD i 0=g.getD (f.getD i 0).toNat 0:=fun i hi=>by rw [←hp,thn_at hi]
 rw [hp]
 repeat'(first|refine wkQ ?_|refine Tw.f ?_ ?_|(refine fun(hc:(_:Bool)=_)=>?_;try simp only [hcS]at hc))
 all_goals try exact om_
 refine aH (G:={i:Nat//i≤f.length∧(True)}) (fun⟨i,_⟩=>[(13,iv i),(5, .sl 0)]) [1,4,11,12] (fun⟨i,_⟩=>[(0,⟨1, .arr (ints (p.take i++List.replicate (f.length-i) 0))⟩)]) [0] (fun zz=>f.length-zz.1) ⟨0,Nat.zero_le _,by first|trivial|simp⟩ ?_ ?_
 ·exact Imp.au hX
 rintro⟨i,hii,hwi⟩
 simp only [go_sem,simprocAttr]
 have h1:=hw i
 have h2:=hpa i
 have h3:=aG6 p i
 rw [hpl]at h3
 repeat'(first|refine wkQ ?_|refine Tw.f ?_ ?_|(refine fun(hc:(_:Bool)=_)=>?_;try simp only [hcS]at hc))
 all_goals try exact om_
 ·refine⟨⟨i+1,by omega,(by trivial)⟩,by simp only;omega,Imp.auto hX (by simp only [go_sem,simprocAttr,←h2 (by omega),h3 (show i<f.length by omega)])⟩
 ·(first|refine aB ?_|refine aA ?_);simp only [go_sem,simprocAttr,Tryz.f157]
  rw [show i=f.length by omega];simp [←hpl]
structure ThF (f g:Fun):Prop where
 src:CatB f.src
 tgt:CatB g.tgt
 lo:f.obs.length≤1048576
 la:f.ars.length≤1048576
 go:g.obs.length≤1048576
 ga:g.ars.length≤1048576
 wo:Within f.obs g.obs.length
 wa:Within f.ars g.ars.length
theorem vP:aF Tryz.prog 95:=⟨_,Tryz.func95,rfl,rfl⟩
theorem yK {f g:Fun} (h:ThF f g):Spec Tryz.prog 95 [.bptr [] (cD f), .bptr [] (cD g)] [] (.agg [iv (thF f g).src.ob, .sl 0, .sl 1, .sl 2, .sl 3,iv (thF f g).tgt.ob, .sl 4, .sl 5, .sl 6, .sl 7, .sl 8, .sl 9]) [(0,⟨1, .arr (ints (thF f g).src.fr)⟩),(1,⟨1, .arr (ints (thF f g).src.to)⟩),(2,⟨1, .arr (ints (thF f g).src.id)⟩),(3,⟨1, .arr (aE (thF f g).src.co)⟩),(4,⟨1, .arr (ints (thF f g).tgt.fr)⟩),(5,⟨1, .arr (ints (thF f g).tgt.to)⟩),(6,⟨1, .arr (ints (thF f g).tgt.id)⟩),(7,⟨1, .arr (aE (thF f g).tgt.co)⟩),(8,⟨1, .arr (ints (thF f g).obs)⟩),(9,⟨1, .arr (ints (thF f g).ars)⟩)]:=by
 refine aD (E:=TE) 0 Tryz.func95 rfl (by simp [Tryz.f95]) fun X hn hX=>?_
 obtain⟨b1,b2,b3,b4,b5,b6,b7,b8⟩:=h
 have l1:=thn_len f.obs g.obs
 have l2:=thn_len f.ars g.ars
 repeat'(first|refine wkQ ?_|refine Tw.f ?_ ?_|(refine kcQ aDE ?_;refine krQ (aGG (f:=f.obs) (g:=g.obs) ?_ ?_ ?_) ?_)|(refine kcQ aDE ?_;refine krQ (aGG (f:=f.ars) (g:=g.ars) ?_ ?_ ?_) ?_)|(refine kcQ pE ?_;refine krQ (sY (c:=f.src) (d:=g.tgt) (p:=thn f.obs g.obs) (q:=thn f.ars g.ars) ?_ ?_ ?_ ?_) ?_)|(refine fun(hc:(_:Bool)=_)=>?_;try simp only [hcS]at hc))
 all_goals try exact om_
 all_goals((first|refine aB ?_|refine aA ?_);simp only [go_sem,simprocAttr,Tryz.f95])
 all_goals exact⟨⟨rfl,rfl,rfl,rfl,rfl,rfl,rfl,rfl,rfl,rfl⟩,rfl⟩
end Go.Eng
