/- Several texts in one: EngRn, L01, L05. -/
import Derived.Test.YthgijhnmcglppaaGreatKix
set_option linter.unusedVariables false
set_option linter.unusedSimpArgs false
set_option maxRecDepth 100000
set_option maxHeartbeats 8000000
section
namespace Go.Eng
open Go
theorem aDg {E:Env} {d:Option Nat} {t u:TypeId} {x y:Operand} {σ:Ss} {K:Ss→Prop} {k q:IntKind} {a b:Int} (hx:σ.opd x= .v (.int k a)) (hy:σ.opd y= .v (.int q b)) (hb:0≤b)
  (hK:K (σ.ap d (.v (.int k (a.fdiv (2^min b.toNat k.bits)))) [] σ.nx)):eH E d (.binOp .shr t x y u) σ K:=by
 refine⟨[],_,[],_,fun X o _ hd ho hdn tm rs h1 h2=>?_,hK,fun i hi=>by simp at hi⟩
 refine bV (E:=E) (by rw [hd];exact hdn) _ fun ac w c hp h=>?_
 have hx1:=h x
 have hy1:=h y
 rw [h1 x (by rw [ho];simp [Op.operands]),show opd (lk σ.tm) x=σ.opd x from rfl,hx]at hx1
 rw [h1 y (by rw [ho];simp [Op.operands]),show opd (lk σ.tm) y=σ.opd y from rfl,hy]at hy1
 simp only [Sv.ok]at hx1 hy1
 have hn:¬b<0:=by omega
 simp [execOp,ho,hx1,hy1,eqGuard,binOp,Op.shift,hn]
def aGU (k:IntKind) (a b:Int):Int:=k.wrap (BitVec.ofInt k.bits a&&&BitVec.ofInt k.bits b).toNat
theorem aDe {E:Env} {d:Option Nat} {t u:TypeId} {x y:Operand} {σ:Ss} {K:Ss→Prop} {k:IntKind} {a b:Int} (hx:σ.opd x= .v (.int k a)) (hy:σ.opd y= .v (.int k b))
  (hK:K (σ.ap d (.v (.int k (aGU k a b))) [] σ.nx)):eH E d (.binOp .and t x y u) σ K:=by
 refine⟨[],_,[],_,fun X o _ hd ho hdn tm rs h1 h2=>?_,hK,fun i hi=>by simp at hi⟩
 refine bV (E:=E) (by rw [hd];exact hdn) _ fun ac w c hp h=>?_
 have hx1:=h x
 have hy1:=h y
 rw [h1 x (by rw [ho];simp [Op.operands]),show opd (lk σ.tm) x=σ.opd x from rfl,hx]at hx1
 rw [h1 y (by rw [ho];simp [Op.operands]),show opd (lk σ.tm) y=σ.opd y from rfl,hy]at hy1
 simp only [Sv.ok]at hx1 hy1
 simp [execOp,ho,hx1,hy1,eqGuard,binOp,Op.intBits,aGU]
theorem aLj (a:Int):0≤aGU .u64 a 16777215∧aGU .u64 a 16777215<16777216:=by
 have h:(BitVec.ofInt 64 a&&&BitVec.ofInt 64 16777215).toNat≤16777215:=by
  rw [BitVec.toNat_and]
  exact Nat.le_trans (Nat.and_le_right) (by decide)
 have e:aGU .u64 a 16777215=IntKind.u64.wrap ((BitVec.ofInt 64 a&&&BitVec.ofInt 64 16777215).toNat:Nat):=rfl
 rw [e]
 generalize (BitVec.ofInt 64 a&&&BitVec.ofInt 64 16777215).toNat=z at h
 have e2:IntKind.u64.wrap (z:Int)=z:=by
  unfold IntKind.wrap IntKind.bits IntKind.signed
  simp
  omega
 rw [e2]
 omega
structure RnS where
 code:List Int
 at_:Nat
 hash:Int
structure RnOk (s:RnS):Prop where
 len:s.code.length≤4096
 le:s.at_≤s.code.length
 b:∀i,i<s.code.length→0≤s.code.getD i 0∧s.code.getD i 0<256
abbrev aVd (s:RnS):Rk:= .box [.bor [] (bys s.code),iv s.at_, .v (.int .u64 s.hash)]
abbrev bA (s:RnS):Rs:=⟨1,aVd s⟩
theorem aM2 (l:List Int) (k:Nat):(bys l).at k= .v (.int .u8 (l.getD k 0)):=by
 simp only [bys,Dt.at,Dt.cells,Dt.df,List.getD_eq_getElem?_getD,List.getElem?_map]
 cases l[k]? <;>rfl
@[go_sem] theorem aP7 (ts) (l:List Int):Sv.ofDt ts (bys l)= .bor ts (bys l):=rfl
attribute [go_sem] aM2
end Go.Eng
end
section
namespace Go.Eng
open Go Go.Proofs Go.Cats
theorem aFy:aE Tryz.prog 12:=⟨_,Tryz.func12,rfl,rfl⟩
theorem aJ4 {l:List Int} (hl:(l.length:Int)≤9223372036854775807):Spec Tryz.prog 12 [.bor [] (bys l)] [] (bv (decide (4096<(l.length:Int)))) []:=by
 refine aD (E:=TE) 0 Tryz.func12 rfl (by simp [Tryz.f12]) fun X hn hX=>?_
 repeat'(first|refine wkQ ?_|refine Tw.f ?_ ?_|(refine fun(hc:(_:Bool)=_)=>?_;try simp only [hcS]at hc))
 all_goals try exact om_
 (first|refine aB ?_|refine aA ?_);simp only [go_sem,simprocAttr,Tryz.f12]
theorem mT:aE Tryz.prog 63:=⟨_,Tryz.func63,rfl,rfl⟩
theorem oT {a b:List Int} (ha:a.length≤1048576) (hb:b.length≤1048576):Spec Tryz.prog 63 [.bor [] (ints a), .bor [] (ints b)] [] (bv (dec (a=b))) []:=by
 refine aD (E:=TE) 0 Tryz.func63 rfl (by simp [Tryz.f63]) fun X hn hX=>?_
 repeat'(first|refine wkQ ?_|refine Tw.f ?_ ?_|(refine fun(hc:(_:Bool)=_)=>?_;try simp only [hcS]at hc))
 all_goals try exact om_
 ·(first|refine aB ?_|refine aA ?_);simp only [go_sem,simprocAttr,Tryz.f63]
  exact cK (fun e=>by subst e;omega)
 refine aH (G:={i:Nat//i≤a.length∧(a.take i=b.take i)}) (fun⟨i,_⟩=>[(5,iv i)]) [0,1] (fun⟨i,_⟩=>[]) [] (fun zz=>a.length-zz.1) ⟨0,Nat.zero_le _,by simp⟩ ?_ ?_
 ·exact Imp.au hX
 rintro⟨i,hii,hwi⟩
 simp only [go_sem,simprocAttr]
 repeat'(first|refine wkQ ?_|refine Tw.f ?_ ?_|(refine fun(hc:(_:Bool)=_)=>?_;try simp only [hcS]at hc))
 all_goals try exact om_
 ·(first|refine aB ?_|refine aA ?_);simp only [go_sem,simprocAttr,Tryz.f63]
  exact cK (fun e=>by subst e;exact hc rfl)
 ·refine⟨⟨i+1,by omega,(by exact jV hwi (by omega) (by omega) hc)⟩,by simp only;omega,Imp.ao hX⟩
 ·(first|refine aB ?_|refine aA ?_);simp only [go_sem,simprocAttr,Tryz.f63]
  exact rK (oY hwi (by omega) (by omega))
end Go.Eng
end
section
namespace Go.Eng
open Go Go.Proofs Go.Cats
theorem mU:aE Tryz.prog 52:=⟨_,Tryz.func52,rfl,rfl⟩
theorem pN {a b:List (List Int)} (ha:a.length≤1048576) (hb:b.length≤1048576) (ra:∀i,i<a.length→(a.getD i []).length≤1048576) (rb:∀i,i<b.length→(b.getD i []).length≤1048576):Spec Tryz.prog 52 [.bor [] (aC a), .bor [] (aC b)] [] (bv (dec (a=b))) []:=by
 refine aD (E:=TE) 0 Tryz.func52 rfl (by simp [Tryz.f52]) fun X hn hX=>?_
 repeat'(first|refine wkQ ?_|refine Tw.f ?_ ?_|(refine fun(hc:(_:Bool)=_)=>?_;try simp only [hcS]at hc))
 all_goals try exact om_
 ·(first|refine aB ?_|refine aA ?_);simp only [go_sem,simprocAttr,Tryz.f52]
  exact cK (fun e=>by subst e;omega)
 refine aH (G:={i:Nat//i≤a.length∧(a.take i=b.take i)}) (fun⟨i,_⟩=>[(5,iv i)]) [0,1] (fun⟨i,_⟩=>[]) [] (fun zz=>a.length-zz.1) ⟨0,Nat.zero_le _,by simp⟩ ?_ ?_
 ·exact Imp.au hX
 rintro⟨i,hii,hwi⟩
 simp only [go_sem,simprocAttr]
 have h1:=ra i
 have h2:=rb i
 repeat'(first|refine wkQ ?_|refine Tw.f ?_ ?_|(refine kcQ mT ?_;refine krQ (oT ?_ ?_) ?_)|(refine fun(hc:(_:Bool)=_)=>?_;try simp only [hcS]at hc))
 all_goals try exact om_
 ·(first|refine aB ?_|refine aA ?_);simp only [go_sem,simprocAttr,Tryz.f52]
  exact cK (fun e=>by subst e;exact hc rfl)
 ·refine⟨⟨i+1,by omega,(by exact jV hwi (by omega) (by omega) hc)⟩,by simp only;omega,Imp.ao hX⟩
 ·(first|refine aB ?_|refine aA ?_);simp only [go_sem,simprocAttr,Tryz.f52]
  exact rK (oY hwi (by omega) (by omega))
theorem aBQ:aE Tryz.prog 34:=⟨_,Tryz.func34,rfl,rfl⟩
theorem aDW {a b:Cat} (ha:CatB a) (hb:CatB b):Spec Tryz.prog 34 [iE a,iE b] [] (bv (dec (a=b))) []:=by
 refine aD (E:=TE) 0 Tryz.func34 rfl (by simp [Tryz.f34]) fun X hn hX=>?_
 obtain⟨a1,a2,a3,a4,a5,a6,a7⟩:=ha
 obtain⟨b1,b2,b3,b4,b5,b6,b7⟩:=hb
 repeat'(first|refine wkQ ?_|refine Tw.f ?_ ?_|(refine kcQ mT ?_;refine krQ (oT ?_ ?_) ?_)|(refine kcQ mU ?_;refine krQ (pN ?_ ?_ ?_ ?_) ?_)|(refine fun(hc:(_:Bool)=_)=>?_;try simp only [hcS]at hc))
 all_goals try exact om_
 ·(first|refine aB ?_|refine aA ?_);simp only [go_sem,simprocAttr,Tryz.f34]
  exact congrArg (fun b=>Sv.v (.bool b)) (bW ⟨fun h=>Cat.eq (by assumption) (by assumption) (by assumption) hc h,fun e=>by rw [e]⟩)
 all_goals((first|refine aB ?_|refine aA ?_);simp only [go_sem,simprocAttr,Tryz.f34];exact cK (fun e=>hc (by rw [e])))
end Go.Eng
end
