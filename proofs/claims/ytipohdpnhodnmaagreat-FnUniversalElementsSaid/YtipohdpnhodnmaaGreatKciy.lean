/- Several texts in one: EngRn, O08, L01, L05, T01, K01, K02. -/
import Derived.Test.YtipohdpnhodnmaaGreatKjx
import Derived.Test.YtipohdpnhodnmaaGreatO07q
set_option linter.unusedVariables false
set_option linter.unusedSimpArgs false
set_option maxRecDepth 100000
set_option maxHeartbeats 16000000
section
namespace Go.Eng
open Go
theorem aDz {E:Env} {d:Option Nat} {t u:TypeId} {x y:Operand} {σ:Ss} {K:Ss→Prop} {k q:IntKind} {a b:Int} (hx:σ.opd x= .v (.int k a)) (hy:σ.opd y= .v (.int q b)) (hb:0≤b)
  (hK:K (σ.ap d (.v (.int k (a.fdiv (2^min b.toNat k.bits)))) [] σ.nx)):cG E d (.binOp .shr t x y u) σ K:=by
 refine⟨[],_,[],_,fun X o _ hd ho hdn tm rs h1 h2=>?_,hK,fun i hi=>by simp at hi⟩
 refine bM (E:=E) (by rw [hd];exact hdn) _ fun ac w c hp h=>?_
 have hx1:=h x
 have hy1:=h y
 rw [h1 x (by rw [ho];simp [Op.operands]),show opd (lk σ.tm) x=σ.opd x from rfl,hx]at hx1
 rw [h1 y (by rw [ho];simp [Op.operands]),show opd (lk σ.tm) y=σ.opd y from rfl,hy]at hy1
 simp only [Sv.ok]at hx1 hy1
 have hn:¬b<0:=by omega
 simp [execOp,ho,hx1,hy1,eqGuard,binOp,Op.shift,hn]
def aHy (k:IntKind) (a b:Int):Int:=k.wrap (BitVec.ofInt k.bits a&&&BitVec.ofInt k.bits b).toNat
theorem aDw {E:Env} {d:Option Nat} {t u:TypeId} {x y:Operand} {σ:Ss} {K:Ss→Prop} {k:IntKind} {a b:Int} (hx:σ.opd x= .v (.int k a)) (hy:σ.opd y= .v (.int k b))
  (hK:K (σ.ap d (.v (.int k (aHy k a b))) [] σ.nx)):cG E d (.binOp .and t x y u) σ K:=by
 refine⟨[],_,[],_,fun X o _ hd ho hdn tm rs h1 h2=>?_,hK,fun i hi=>by simp at hi⟩
 refine bM (E:=E) (by rw [hd];exact hdn) _ fun ac w c hp h=>?_
 have hx1:=h x
 have hy1:=h y
 rw [h1 x (by rw [ho];simp [Op.operands]),show opd (lk σ.tm) x=σ.opd x from rfl,hx]at hx1
 rw [h1 y (by rw [ho];simp [Op.operands]),show opd (lk σ.tm) y=σ.opd y from rfl,hy]at hy1
 simp only [Sv.ok]at hx1 hy1
 simp [execOp,ho,hx1,hy1,eqGuard,binOp,Op.intBits,aHy]
theorem aMu (a:Int):0≤aHy .u64 a 16777215∧aHy .u64 a 16777215<16777216:=by
 have h:(BitVec.ofInt 64 a&&&BitVec.ofInt 64 16777215).toNat≤16777215:=by
  rw [BitVec.toNat_and]
  exact Nat.le_trans (Nat.and_le_right) (by decide)
 have e:aHy .u64 a 16777215=IntKind.u64.wrap ((BitVec.ofInt 64 a&&&BitVec.ofInt 64 16777215).toNat:Nat):=rfl
 rw [e]
 generalize (BitVec.ofInt 64 a&&&BitVec.ofInt 64 16777215).toNat=z at h
 have e2:IntKind.u64.wrap (z:Int)=z:=by
  unfold IntKind.wrap IntKind.bits IntKind.signed
  simp
  omega
 rw [e2]
 omega
structure RnS where
 code:List Int
 at_:Nat
 hash:Int
structure RnOk (s:RnS):Prop where
 len:s.code.length≤4096
 le:s.at_≤s.code.length
 b:∀i,i<s.code.length→0≤s.code.getD i 0∧s.code.getD i 0<256
abbrev aWo (s:RnS):Rk:= .box [.bor [] (bys s.code),iv s.at_, .v (.int .u64 s.hash)]
abbrev bB (s:RnS):Rs:=⟨1,aWo s⟩
theorem aOg (l:List Int) (k:Nat):(bys l).at k= .v (.int .u8 (l.getD k 0)):=by
 simp only [bys,Dt.at,Dt.cells,Dt.df,List.getD_eq_getElem?_getD,List.getElem?_map]
 cases l[k]? <;>rfl
@[go_sem] theorem aRD (ts) (l:List Int):Sv.ofDt ts (bys l)= .bor ts (bys l):=rfl
attribute [go_sem] aOg
end Go.Eng
end
section
namespace Go.Eng
open Go Go.Proofs Go.Cats
section
variable (c:Cat) (x:Int)
@[go_sem] theorem aBE:(c.rep x).shape=c:=rfl
end
theorem aEM:aF Tryz.prog 63:=⟨_,Tryz.func63,rfl,rfl⟩
theorem aH4 {c:Cat} {x:Int} (hs:Shape c) (hb:CatB c):Spec Tryz.prog 63 [jX c,iv x] [] (.agg [iv c.ob, .sl 0, .sl 1, .sl 2, .sl 3, .sl 4, .sl 5]) [(0,⟨1, .arr (ints c.fr)⟩),(1,⟨1, .arr (ints c.to)⟩),(2,⟨1, .arr (ints c.id)⟩),(3,⟨1, .arr (aC c.co)⟩),(4,⟨1, .arr (ints (c.rep x).sizes)⟩),(5,⟨1, .arr (aC (c.rep x).acts)⟩)]:=by
 refine aD (E:=TE) 0 Tryz.func63 rfl (by simp [Tryz.f63]) fun X hn hX=>?_
 repeat'(first|refine wkQ ?_|refine Tw.f ?_ ?_|(refine kcQ vA ?_;refine krQ (aFB (x:=x) ?_ ?_) ?_)|(refine fun(hc:(_:Bool)=_)=>?_;try simp only [hcS]at hc))
 all_goals try exact om_
 (first|refine aB ?_|refine aA ?_);simp only [go_sem,simprocAttr,Tryz.f63]
end Go.Eng
end
section
namespace Go.Eng
open Go Go.Proofs Go.Cats
theorem aFZ:aF Tryz.prog 7:=⟨_,Tryz.func7,rfl,rfl⟩
theorem aK1 {l:List Int} (hl:(l.length:Int)≤9223372036854775807):Spec Tryz.prog 7 [.bor [] (bys l)] [] (bv (decide (4096<(l.length:Int)))) []:=by
 refine aD (E:=TE) 0 Tryz.func7 rfl (by simp [Tryz.f7]) fun X hn hX=>?_
 repeat'(first|refine wkQ ?_|refine Tw.f ?_ ?_|(refine fun(hc:(_:Bool)=_)=>?_;try simp only [hcS]at hc))
 all_goals try exact om_
 (first|refine aB ?_|refine aA ?_);simp only [go_sem,simprocAttr,Tryz.f7]
theorem rS:aF Tryz.prog 22:=⟨_,Tryz.func22,rfl,rfl⟩
theorem vL {a b:List Int} (ha:a.length≤1048576) (hb:b.length≤1048576):Spec Tryz.prog 22 [.bor [] (ints a), .bor [] (ints b)] [] (bv (dec (a=b))) []:=by
 refine aD (E:=TE) 0 Tryz.func22 rfl (by simp [Tryz.f22]) fun X hn hX=>?_
 repeat'(first|refine wkQ ?_|refine Tw.f ?_ ?_|(refine fun(hc:(_:Bool)=_)=>?_;try simp only [hcS]at hc))
 all_goals try exact om_
 ·(first|refine aB ?_|refine aA ?_);simp only [go_sem,simprocAttr,Tryz.f22]
  exact cW (fun e=>by subst e;omega)
 refine aG (G:={i:Nat//i≤a.length∧(a.take i=b.take i)}) (fun⟨i,_⟩=>[(5,iv i)]) [0,1] (fun⟨i,_⟩=>[]) [] (fun zz=>a.length-zz.1) ⟨0,Nat.zero_le _,by simp⟩ ?_ ?_
 ·exact Imp.au hX
 rintro⟨i,hii,hwi⟩
 simp only [go_sem,simprocAttr]
 repeat'(first|refine wkQ ?_|refine Tw.f ?_ ?_|(refine fun(hc:(_:Bool)=_)=>?_;try simp only [hcS]at hc))
 all_goals try exact om_
 ·(first|refine aB ?_|refine aA ?_);simp only [go_sem,simprocAttr,Tryz.f22]
  exact cW (fun e=>by subst e;exact hc rfl)
 ·refine⟨⟨i+1,by omega,(by exact mO hwi (by omega) (by omega) hc)⟩,by simp only;omega,Imp.ao hX⟩
 ·(first|refine aB ?_|refine aA ?_);simp only [go_sem,simprocAttr,Tryz.f22]
  exact qF (tF hwi (by omega) (by omega))
end Go.Eng
end
section
namespace Go.Eng
open Go Go.Proofs Go.Cats
theorem qM:aF Tryz.prog 11:=⟨_,Tryz.func11,rfl,rfl⟩
theorem uG {a b:List (List Int)} (ha:a.length≤1048576) (hb:b.length≤1048576) (ra:∀i,i<a.length→(a.getD i []).length≤1048576) (rb:∀i,i<b.length→(b.getD i []).length≤1048576):Spec Tryz.prog 11 [.bor [] (aC a), .bor [] (aC b)] [] (bv (dec (a=b))) []:=by
 refine aD (E:=TE) 0 Tryz.func11 rfl (by simp [Tryz.f11]) fun X hn hX=>?_
 repeat'(first|refine wkQ ?_|refine Tw.f ?_ ?_|(refine fun(hc:(_:Bool)=_)=>?_;try simp only [hcS]at hc))
 all_goals try exact om_
 ·(first|refine aB ?_|refine aA ?_);simp only [go_sem,simprocAttr,Tryz.f11]
  exact cW (fun e=>by subst e;omega)
 refine aG (G:={i:Nat//i≤a.length∧(a.take i=b.take i)}) (fun⟨i,_⟩=>[(5,iv i)]) [0,1] (fun⟨i,_⟩=>[]) [] (fun zz=>a.length-zz.1) ⟨0,Nat.zero_le _,by simp⟩ ?_ ?_
 ·exact Imp.au hX
 rintro⟨i,hii,hwi⟩
 simp only [go_sem,simprocAttr]
 have h1:=ra i
 have h2:=rb i
 repeat'(first|refine wkQ ?_|refine Tw.f ?_ ?_|(refine kcQ rS ?_;refine krQ (vL ?_ ?_) ?_)|(refine fun(hc:(_:Bool)=_)=>?_;try simp only [hcS]at hc))
 all_goals try exact om_
 ·(first|refine aB ?_|refine aA ?_);simp only [go_sem,simprocAttr,Tryz.f11]
  exact cW (fun e=>by subst e;exact hc rfl)
 ·refine⟨⟨i+1,by omega,(by exact mO hwi (by omega) (by omega) hc)⟩,by simp only;omega,Imp.ao hX⟩
 ·(first|refine aB ?_|refine aA ?_);simp only [go_sem,simprocAttr,Tryz.f11]
  exact qF (tF hwi (by omega) (by omega))
end Go.Eng
end
section
namespace Go.Eng
open Go Go.Proofs Go.Cats
def _root_.Go.Cats.thn (f g:List Int):List Int:=f.map fun y=>g.getD y.toNat 0
theorem aNa (g:List Int):thn [] g=[]:=rfl
attribute [local go_sem] List.set_cons_zero List.set_cons_succ aNa
structure ThF (f g:Fun):Prop where
 src:CatB f.src
 tgt:CatB g.tgt
 lo:f.obs.length≤1048576
 la:f.ars.length≤1048576
 go:g.obs.length≤1048576
 ga:g.ars.length≤1048576
 wo:Within f.obs g.obs.length
 wa:Within f.ars g.ars.length
end Go.Eng
end
section
namespace Go.Eng
open Go Go.Proofs Go.Cats
attribute [local go_sem] List.set_cons_zero List.set_cons_succ
def thP (s t:List (List Int)) (i:Nat):List (List Int):=(List.range i).map fun x=>thn (s.getD x []) (t.getD x [])
theorem aLf (s t:List (List Int)):thP s t 0=[]:=rfl
attribute [local go_sem] aLf
end Go.Eng
end
section
namespace Go.Eng
open Go Go.Proofs Go.Cats
attribute [local go_sem] List.set_cons_zero List.set_cons_succ
def arR (c:Cat) (h:Int) (z i:Nat):List Int:=((c.hom (c.T h) z).take i).map fun k=>idxOf (c.hom (c.F h) z) (c.C h k)
theorem aIt (c:Cat) (h:Int) (z:Nat):arR c h z 0=[]:=rfl
theorem aIs (c:Cat) (h:Int):arP c h 0=[]:=rfl
attribute [local go_sem] aIt aIs
end Go.Eng
end
