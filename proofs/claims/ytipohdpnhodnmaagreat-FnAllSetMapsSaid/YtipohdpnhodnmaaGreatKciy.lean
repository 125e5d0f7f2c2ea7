/- Several texts in one: O09, EngRn, L01, L05, K01. -/
import Derived.Test.YtipohdpnhodnmaaGreatC07y
set_option linter.unusedSimpArgs false
set_option linter.unusedVariables false
set_option maxRecDepth 100000
set_option maxHeartbeats 16000000
section
namespace Go.Eng
open Go Go.Proofs Go.Cats
attribute [go_sem] SF.eRow_zero SF.eRow_len SF.eParts_zero SF.eParts_len
theorem gD:aF Tryz.prog 102:=⟨_,Tryz.func102,rfl,rfl⟩
theorem iU {f:SF} (hb:SFB f):Spec Tryz.prog 102 [sfV f] [] (.agg [iv f.shape.ob, .sl 0, .sl 1, .sl 2, .sl 3, .sl 4, .sl 5]) [(0,⟨1, .arr (ints f.shape.fr)⟩),(1,⟨1, .arr (ints f.shape.to)⟩),(2,⟨1, .arr (ints f.shape.id)⟩),(3,⟨1, .arr (aD f.shape.co)⟩),(4,⟨1, .arr (ints f.sizes)⟩),(5,⟨1, .arr (aD f.acts)⟩)]:=by
 refine aE (E:=TE) 0 Tryz.func102 rfl (by simp [Tryz.f102]) fun X hn hX=>?_
 obtain⟨b1,b2,b3,b4⟩:=hb
 repeat'(first|refine wkQ ?_|refine Tw.f ?_ ?_|(refine kcQ iF ?_;refine krQ (kE ?_) ?_)|(refine kcQ fH ?_;refine krQ (gO ?_) ?_)|(refine kcQ fI ?_;refine krQ (gG ?_ ?_) ?_)|(refine fun(hc:(_:Bool)=_)=>?_;try simp only [hcS]at hc))
 all_goals try exact om_
 (first|refine aB ?_|refine aA ?_);simp only [go_sem,simprocAttr,Tryz.f102]
theorem qX:aF Tryz.prog 117:=⟨_,Tryz.func117,rfl,rfl⟩
theorem sO {f:SF} (hb:SFB f):Spec Tryz.prog 117 [.bptr [] (sfD f)] [] (.agg [iv f.shape.ob, .sl 0, .sl 1, .sl 2, .sl 3, .sl 4, .sl 5]) [(0,⟨1, .arr (ints f.shape.fr)⟩),(1,⟨1, .arr (ints f.shape.to)⟩),(2,⟨1, .arr (ints f.shape.id)⟩),(3,⟨1, .arr (aD f.shape.co)⟩),(4,⟨1, .arr (ints f.sizes)⟩),(5,⟨1, .arr (aD f.acts)⟩)]:=by
 refine aE (E:=TE) 0 Tryz.func117 rfl (by simp [Tryz.f117]) fun X hn hX=>?_
 obtain⟨b1,b2,b3,b4⟩:=hb
 repeat'(first|refine wkQ ?_|refine Tw.f ?_ ?_|(refine kcQ sZ ?_;refine krQ (vV ?_) ?_)|(refine kcQ vE ?_;refine krQ (aAz ?_) ?_)|(refine kcQ kJ ?_;refine krQ (mY ?_ ?_) ?_)|(refine fun(hc:(_:Bool)=_)=>?_;try simp only [hcS]at hc))
 all_goals try exact om_
 (first|refine aB ?_|refine aA ?_);simp only [go_sem,simprocAttr,Tryz.f117]
theorem rQ:aF Tryz.prog 55:=⟨_,Tryz.func55,rfl,rfl⟩
theorem vY {f g:SF} {p:List (List Int)} (hf:SFB f) (hg:SFB g) (hp:p.length≤1048576) (hr:∀i,i<p.length→(p.getD i []).length≤1048576):Spec Tryz.prog 55 [.bptr [] (sfD f), .bptr [] (sfD g), .bor [] (aD p)] [] (.agg [iv f.shape.ob, .sl 0, .sl 1, .sl 2, .sl 3, .sl 4, .sl 5,iv g.shape.ob, .sl 6, .sl 7, .sl 8, .sl 9, .sl 10, .sl 11, .sl 12]) [(0,⟨1, .arr (ints f.shape.fr)⟩),(1,⟨1, .arr (ints f.shape.to)⟩),(2,⟨1, .arr (ints f.shape.id)⟩),(3,⟨1, .arr (aD f.shape.co)⟩),(4,⟨1, .arr (ints f.sizes)⟩),(5,⟨1, .arr (aD f.acts)⟩),(6,⟨1, .arr (ints g.shape.fr)⟩),(7,⟨1, .arr (ints g.shape.to)⟩),(8,⟨1, .arr (ints g.shape.id)⟩),(9,⟨1, .arr (aD g.shape.co)⟩),(10,⟨1, .arr (ints g.sizes)⟩),(11,⟨1, .arr (aD g.acts)⟩),(12,⟨1, .arr (aD p)⟩)]:=by
 refine aE (E:=TE) 0 Tryz.func55 rfl (by simp [Tryz.f55]) fun X hn hX=>?_
 repeat'(first|refine wkQ ?_|refine Tw.f ?_ ?_|(refine kcQ qX ?_;refine krQ (sO ?_) ?_)|(refine kcQ kJ ?_;refine krQ (mY ?_ ?_) ?_)|(refine fun(hc:(_:Bool)=_)=>?_;try simp only [hcS]at hc))
 all_goals try exact om_
 (first|refine aB ?_|refine aA ?_);simp only [go_sem,simprocAttr,Tryz.f55]
end Go.Eng
end
section
namespace Go.Eng
open Go
theorem aEi {E:Env} {d:Option Nat} {t u:TypeId} {x y:Operand} {σ:Ss} {K:Ss→Prop} {k q:IntKind} {a b:Int} (hx:σ.opd x= .v (.int k a)) (hy:σ.opd y= .v (.int q b)) (hb:0≤b)
  (hK:K (σ.ap d (.v (.int k (a.fdiv (2^min b.toNat k.bits)))) [] σ.nx)):eM E d (.binOp .shr t x y u) σ K:=by
 refine⟨[],_,[],_,fun X o _ hd ho hdn tm rs h1 h2=>?_,hK,fun i hi=>by simp at hi⟩
 refine cG (E:=E) (by rw [hd];exact hdn) _ fun ac w c hp h=>?_
 have hx1:=h x
 have hy1:=h y
 rw [h1 x (by rw [ho];simp [Op.operands]),show opd (lk σ.tm) x=σ.opd x from rfl,hx]at hx1
 rw [h1 y (by rw [ho];simp [Op.operands]),show opd (lk σ.tm) y=σ.opd y from rfl,hy]at hy1
 simp only [Sv.ok]at hx1 hy1
 have hn:¬b<0:=by omega
 simp [execOp,ho,hx1,hy1,eqGuard,binOp,Op.shift,hn]
def aIi (k:IntKind) (a b:Int):Int:=k.wrap (BitVec.ofInt k.bits a&&&BitVec.ofInt k.bits b).toNat
theorem aEf {E:Env} {d:Option Nat} {t u:TypeId} {x y:Operand} {σ:Ss} {K:Ss→Prop} {k:IntKind} {a b:Int} (hx:σ.opd x= .v (.int k a)) (hy:σ.opd y= .v (.int k b))
  (hK:K (σ.ap d (.v (.int k (aIi k a b))) [] σ.nx)):eM E d (.binOp .and t x y u) σ K:=by
 refine⟨[],_,[],_,fun X o _ hd ho hdn tm rs h1 h2=>?_,hK,fun i hi=>by simp at hi⟩
 refine cG (E:=E) (by rw [hd];exact hdn) _ fun ac w c hp h=>?_
 have hx1:=h x
 have hy1:=h y
 rw [h1 x (by rw [ho];simp [Op.operands]),show opd (lk σ.tm) x=σ.opd x from rfl,hx]at hx1
 rw [h1 y (by rw [ho];simp [Op.operands]),show opd (lk σ.tm) y=σ.opd y from rfl,hy]at hy1
 simp only [Sv.ok]at hx1 hy1
 simp [execOp,ho,hx1,hy1,eqGuard,binOp,Op.intBits,aIi]
theorem aMK (a:Int):0≤aIi .u64 a 16777215∧aIi .u64 a 16777215<16777216:=by
 have h:(BitVec.ofInt 64 a&&&BitVec.ofInt 64 16777215).toNat≤16777215:=by
  rw [BitVec.toNat_and]
  exact Nat.le_trans (Nat.and_le_right) (by decide)
 have e:aIi .u64 a 16777215=IntKind.u64.wrap ((BitVec.ofInt 64 a&&&BitVec.ofInt 64 16777215).toNat:Nat):=rfl
 rw [e]
 generalize (BitVec.ofInt 64 a&&&BitVec.ofInt 64 16777215).toNat=z at h
 have e2:IntKind.u64.wrap (z:Int)=z:=by
  unfold IntKind.wrap IntKind.bits IntKind.signed
  simp
  omega
 rw [e2]
 omega
structure RnS where
 code:List Int
 at_:Nat
 hash:Int
structure RnOk (s:RnS):Prop where
 len:s.code.length≤4096
 le:s.at_≤s.code.length
 b:∀i,i<s.code.length→0≤s.code.getD i 0∧s.code.getD i 0<256
abbrev aVY (s:RnS):Rk:= .box [.bor [] (bys s.code),iv s.at_, .v (.int .u64 s.hash)]
abbrev bB (s:RnS):Rs:=⟨1,aVY s⟩
theorem aOt (l:List Int) (k:Nat):(bys l).at k= .v (.int .u8 (l.getD k 0)):=by
 simp only [bys,Dt.at,Dt.cells,Dt.df,List.getD_eq_getElem?_getD,List.getElem?_map]
 cases l[k]? <;>rfl
@[go_sem] theorem aRx (ts) (l:List Int):Sv.ofDt ts (bys l)= .bor ts (bys l):=rfl
attribute [go_sem] aOt
end Go.Eng
end
section
namespace Go.Eng
open Go Go.Proofs Go.Cats
theorem aGF:aF Tryz.prog 7:=⟨_,Tryz.func7,rfl,rfl⟩
theorem aLt {l:List Int} (hl:(l.length:Int)≤9223372036854775807):Spec Tryz.prog 7 [.bor [] (bys l)] [] (bv (decide (4096<(l.length:Int)))) []:=by
 refine aE (E:=TE) 0 Tryz.func7 rfl (by simp [Tryz.f7]) fun X hn hX=>?_
 repeat'(first|refine wkQ ?_|refine Tw.f ?_ ?_|(refine fun(hc:(_:Bool)=_)=>?_;try simp only [hcS]at hc))
 all_goals try exact om_
 (first|refine aB ?_|refine aA ?_);simp only [go_sem,simprocAttr,Tryz.f7]
theorem nK:aF Tryz.prog 22:=⟨_,Tryz.func22,rfl,rfl⟩
theorem pW {a b:List Int} (ha:a.length≤1048576) (hb:b.length≤1048576):Spec Tryz.prog 22 [.bor [] (ints a), .bor [] (ints b)] [] (bv (dec (a=b))) []:=by
 refine aE (E:=TE) 0 Tryz.func22 rfl (by simp [Tryz.f22]) fun X hn hX=>?_
 repeat'(first|refine wkQ ?_|refine Tw.f ?_ ?_|(refine fun(hc:(_:Bool)=_)=>?_;try simp only [hcS]at hc))
 all_goals try exact om_
 ·(first|refine aB ?_|refine aA ?_);simp only [go_sem,simprocAttr,Tryz.f22]
  exact cR (fun e=>by subst e;omega)
 refine aH (G:={i:Nat//i≤a.length∧(a.take i=b.take i)}) (fun⟨i,_⟩=>[(5,iv i)]) [0,1] (fun⟨i,_⟩=>[]) [] (fun zz=>a.length-zz.1) ⟨0,Nat.zero_le _,by simp⟩ ?_ ?_
 ·exact Imp.au hX
 rintro⟨i,hii,hwi⟩
 simp only [go_sem,simprocAttr]
 repeat'(first|refine wkQ ?_|refine Tw.f ?_ ?_|(refine fun(hc:(_:Bool)=_)=>?_;try simp only [hcS]at hc))
 all_goals try exact om_
 ·(first|refine aB ?_|refine aA ?_);simp only [go_sem,simprocAttr,Tryz.f22]
  exact cR (fun e=>by subst e;exact hc rfl)
 ·refine⟨⟨i+1,by omega,(by exact iV hwi (by omega) (by omega) hc)⟩,by simp only;omega,Imp.ao hX⟩
 ·(first|refine aB ?_|refine aA ?_);simp only [go_sem,simprocAttr,Tryz.f22]
  exact qW (nA hwi (by omega) (by omega))
end Go.Eng
end
section
namespace Go.Eng
open Go Go.Proofs Go.Cats
theorem cW:aF Tryz.prog 11:=⟨_,Tryz.func11,rfl,rfl⟩
theorem dS {a b:List (List Int)} (ha:a.length≤1048576) (hb:b.length≤1048576) (ra:∀i,i<a.length→(a.getD i []).length≤1048576) (rb:∀i,i<b.length→(b.getD i []).length≤1048576):Spec Tryz.prog 11 [.bor [] (aD a), .bor [] (aD b)] [] (bv (dec (a=b))) []:=by
 refine aE (E:=TE) 0 Tryz.func11 rfl (by simp [Tryz.f11]) fun X hn hX=>?_
 repeat'(first|refine wkQ ?_|refine Tw.f ?_ ?_|(refine fun(hc:(_:Bool)=_)=>?_;try simp only [hcS]at hc))
 all_goals try exact om_
 ·(first|refine aB ?_|refine aA ?_);simp only [go_sem,simprocAttr,Tryz.f11]
  exact cR (fun e=>by subst e;omega)
 refine aH (G:={i:Nat//i≤a.length∧(a.take i=b.take i)}) (fun⟨i,_⟩=>[(5,iv i)]) [0,1] (fun⟨i,_⟩=>[]) [] (fun zz=>a.length-zz.1) ⟨0,Nat.zero_le _,by simp⟩ ?_ ?_
 ·exact Imp.au hX
 rintro⟨i,hii,hwi⟩
 simp only [go_sem,simprocAttr]
 have h1:=ra i
 have h2:=rb i
 repeat'(first|refine wkQ ?_|refine Tw.f ?_ ?_|(refine kcQ nK ?_;refine krQ (pW ?_ ?_) ?_)|(refine fun(hc:(_:Bool)=_)=>?_;try simp only [hcS]at hc))
 all_goals try exact om_
 ·(first|refine aB ?_|refine aA ?_);simp only [go_sem,simprocAttr,Tryz.f11]
  exact cR (fun e=>by subst e;exact hc rfl)
 ·refine⟨⟨i+1,by omega,(by exact iV hwi (by omega) (by omega) hc)⟩,by simp only;omega,Imp.ao hX⟩
 ·(first|refine aB ?_|refine aA ?_);simp only [go_sem,simprocAttr,Tryz.f11]
  exact qW (nA hwi (by omega) (by omega))
theorem aCF:aF Tryz.prog 29:=⟨_,Tryz.func29,rfl,rfl⟩
theorem aEZ {a b:Cat} (ha:CatB a) (hb:CatB b):Spec Tryz.prog 29 [jQ a,jQ b] [] (bv (dec (a=b))) []:=by
 refine aE (E:=TE) 0 Tryz.func29 rfl (by simp [Tryz.f29]) fun X hn hX=>?_
 obtain⟨a1,a2,a3,a4,a5,a6,a7⟩:=ha
 obtain⟨b1,b2,b3,b4,b5,b6,b7⟩:=hb
 repeat'(first|refine wkQ ?_|refine Tw.f ?_ ?_|(refine kcQ nK ?_;refine krQ (pW ?_ ?_) ?_)|(refine kcQ cW ?_;refine krQ (dS ?_ ?_ ?_ ?_) ?_)|(refine fun(hc:(_:Bool)=_)=>?_;try simp only [hcS]at hc))
 all_goals try exact om_
 ·(first|refine aB ?_|refine aA ?_);simp only [go_sem,simprocAttr,Tryz.f29]
  exact congrArg (fun b=>Sv.v (.bool b)) (cI ⟨fun h=>Cat.eq (by assumption) (by assumption) (by assumption) hc h,fun e=>by rw [e]⟩)
 all_goals((first|refine aB ?_|refine aA ?_);simp only [go_sem,simprocAttr,Tryz.f29];exact cR (fun e=>hc (by rw [e])))
end Go.Eng
end
section
namespace Go.Eng
open Go Go.Proofs Go.Cats
attribute [local go_sem] List.set_cons_zero List.set_cons_succ
theorem aPp {f g:SF} (a:f.shape=g.shape) (b:f.sizes=g.sizes) (c:f.acts=g.acts):f=g:=by
 cases f;cases g;simp only at a b c;subst a;subst b;subst c;rfl
theorem aPt {f g:SM} (a:f.src=g.src) (b:f.tgt=g.tgt) (c:f.parts=g.parts):f=g:=by
 cases f;cases g;simp only at a b c;subst a;subst b;subst c;rfl
theorem rE:aF Tryz.prog 61:=⟨_,Tryz.func61,rfl,rfl⟩
theorem uO {f g:SF} (hf:SFB f) (hg:SFB g):Spec Tryz.prog 61 [sfV f,sfV g] [] (bv (dec (f=g))) []:=by
 refine aE (E:=TE) 0 Tryz.func61 rfl (by simp [Tryz.f61]) fun X hn hX=>?_
 have f1:=hf.shape
 have f2:=hf.sizes
 have f3:=hf.acts
 have f4:=hf.row
 have g1:=hg.shape
 have g2:=hg.sizes
 have g3:=hg.acts
 have g4:=hg.row
 repeat'(first|refine wkQ ?_|refine Tw.f ?_ ?_|(refine kcQ aCF ?_;refine krQ (aEZ ?_ ?_) ?_)|(refine kcQ nK ?_;refine krQ (pW ?_ ?_) ?_)|(refine kcQ cW ?_;refine krQ (dS ?_ ?_ ?_ ?_) ?_)|(refine fun(hc:(_:Bool)=_)=>?_;try simp only [hcS]at hc))
 all_goals try exact om_
 ·(first|refine aB ?_|refine aA ?_);simp only [go_sem,simprocAttr,Tryz.f61]
  exact congrArg bv (cI ⟨fun h=>aPp (by assumption) (by assumption) h,fun h=>congrArg SF.acts h⟩)
 ·(first|refine aB ?_|refine aA ?_);simp only [go_sem,simprocAttr,Tryz.f61]
  exact cR (fun h=>hc (congrArg SF.sizes h))
 ·(first|refine aB ?_|refine aA ?_);simp only [go_sem,simprocAttr,Tryz.f61]
  exact cR (fun h=>hc (congrArg SF.shape h))
theorem aCG:aF Tryz.prog 16:=⟨_,Tryz.func16,rfl,rfl⟩
theorem aE0 {f g:SM} (hf:SMB f) (hg:SMB g):Spec Tryz.prog 16 [smV f,smV g] [] (bv (dec (f=g))) []:=by
 refine aE (E:=TE) 0 Tryz.func16 rfl (by simp [Tryz.f16]) fun X hn hX=>?_
 have f1:=hf.src
 have f2:=hf.tgt
 have f3:=hf.parts
 have f4:=hf.row
 have g1:=hg.src
 have g2:=hg.tgt
 have g3:=hg.parts
 have g4:=hg.row
 repeat'(first|refine wkQ ?_|refine Tw.f ?_ ?_|(refine kcQ rE ?_;refine krQ (uO (f:=f.src) (g:=g.src) ?_ ?_) ?_)|(refine kcQ rE ?_;refine krQ (uO (f:=f.tgt) (g:=g.tgt) ?_ ?_) ?_)|(refine kcQ cW ?_;refine krQ (dS ?_ ?_ ?_ ?_) ?_)|(refine fun(hc:(_:Bool)=_)=>?_;try simp only [hcS]at hc))
 all_goals try exact om_
 ·(first|refine aB ?_|refine aA ?_);simp only [go_sem,simprocAttr,Tryz.f16]
  exact congrArg bv (cI ⟨fun h=>aPt (by assumption) (by assumption) h,fun h=>congrArg SM.parts h⟩)
 ·(first|refine aB ?_|refine aA ?_);simp only [go_sem,simprocAttr,Tryz.f16]
  exact cR (fun h=>hc (congrArg SM.tgt h))
 ·(first|refine aB ?_|refine aA ?_);simp only [go_sem,simprocAttr,Tryz.f16]
  exact cR (fun h=>hc (congrArg SM.src h))
def thP (s t:List (List Int)) (i:Nat):List (List Int):=(List.range i).map fun x=>thn (s.getD x []) (t.getD x [])
theorem aLI (s t:List (List Int)):thP s t 0=[]:=rfl
theorem aLH (s t:List (List Int)) (i:Nat):thP s t (i+1)=thP s t i++[thn (s.getD i []) (t.getD i [])]:=by unfold thP;rw [List.range_succ,List.map_append];rfl
theorem yT (s t:List (List Int)) (i:Nat):(thP s t i).length=i:=by unfold thP;rw [List.length_map,List.length_range]
attribute [local go_sem] aLI
theorem aBe:aF Tryz.prog 58:=⟨_,Tryz.func58,rfl,rfl⟩
theorem aDq {s t:List (List Int)} (hs:s.length≤1048576) (ht:t.length=s.length) (hr:∀i,i<s.length→(s.getD i []).length≤1048576∧(t.getD i []).length≤1048576∧Within (s.getD i []) (t.getD i []).length):Spec Tryz.prog 58 [.bor [] (aD s), .bor [] (aD t)] [] (.sl 0) [(0,⟨1, .arr (aD (thP s t s.length))⟩)]:=by
 refine aE (E:=TE) 0 Tryz.func58 rfl (by simp [Tryz.f58]) fun X hn hX=>?_
 repeat'(first|refine wkQ ?_|refine Tw.f ?_ ?_|(refine fun(hc:(_:Bool)=_)=>?_;try simp only [hcS]at hc))
 all_goals try exact om_
 refine aH (G:={i:Nat//i≤s.length∧(True)}) (fun⟨i,_⟩=>[(10,iv i),(5, .sl 0)]) [0,1,4,9] (fun⟨i,_⟩=>[(0,⟨1, .arr (aD (thP s t i))⟩)]) [0] (fun zz=>s.length-zz.1) ⟨0,Nat.zero_le _,by first|trivial|simp⟩ ?_ ?_
 ·exact Imp.au hX
 rintro⟨i,hii,hwi⟩
 simp only [go_sem,simprocAttr]
 have hl:=yT s t i
 rcases Nat.lt_or_ge i s.length with hlt|hge
 ·obtain⟨r1,r2,r3⟩:=hr i hlt
  have e1:=aLH s t i
  repeat'(first|refine wkQ ?_|refine Tw.f ?_ ?_|(refine kcQ aJk ?_;refine krQ (aNr (f:=s.getD i []) (g:=t.getD i []) ?_ ?_ ?_) ?_)|(refine fun(hc:(_:Bool)=_)=>?_;try simp only [hcS]at hc))
  all_goals try exact om_
  all_goals try(exfalso;omega)
  refine⟨⟨i+1,by omega,(by trivial)⟩,by simp only;omega,Imp.auto hX (by simp only [go_sem,simprocAttr,e1])⟩
 ·obtain rfl:i=s.length:=by omega
  repeat'(first|refine wkQ ?_|refine Tw.f ?_ ?_|(refine fun(hc:(_:Bool)=_)=>?_;try simp only [hcS]at hc))
  all_goals try exact om_
  all_goals try(exfalso;omega)
  (first|refine aB ?_|refine aA ?_);simp only [go_sem,simprocAttr,Tryz.f58]
end Go.Eng
end
