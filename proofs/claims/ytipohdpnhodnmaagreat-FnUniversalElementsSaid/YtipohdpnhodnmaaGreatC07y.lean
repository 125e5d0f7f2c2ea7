/- Several texts in one: O04, C07, C14, C15, C16, C17, C18. -/
import Derived.Test.YtipohdpnhodnmaaGreatO01y
import Derived.Test.YtipohdpnhodnmaaGreatKix
set_option linter.unusedSimpArgs false
set_option linter.unusedVariables false
set_option maxRecDepth 100000
set_option maxHeartbeats 16000000
section
namespace Go.Eng
open Go Go.Proofs Go.Cats
attribute [go_sem] aDM aJW
def aJV (c:Cat) (x:Int) (rows:List (List Int)):List Dt:=[.pt (dJ c), .v (.int .i64 x), .v (.int .u32 1), .v (.int .i32 0), .v (.int .u32 0),aC rows]
section
variable (c:Cat) (x:Int) (rows:List (List Int))
@[go_sem] theorem aWf:((aJV c x rows).drop 2).take 3=[.v (.int .u32 1), .v (.int .i32 0), .v (.int .u32 0)]:=rfl
@[go_sem] theorem aWg:((aJV c x rows).drop 5).take 1=[aC rows]:=rfl
end
theorem fP:aF Tryz.prog 139:=⟨_,Tryz.func139,rfl,rfl⟩
theorem sV {c:Cat} (hs:Shape c) {x:Int}:Spec Tryz.prog 139 [.ptr 0 0] [(0,⟨1, .box (onc c x 0 0 (.v (.slice none 0 0)))⟩)] (.sl 1) [(0,⟨1, .box (onc c x 1 0 (.sl 1))⟩),(1,⟨1, .arr (aC (c.homs x c.ob.toNat))⟩)]:=by
 refine aD (E:=TE) 1 Tryz.func139 rfl (by simp [Tryz.f139]) fun X hn hX=>?_
 repeat'(first|refine wkQ ?_|refine Tw.f ?_ ?_|(refine kcQ uQ ?_;refine kwQ (aFu (x:=x) hs) [(0,0),(1,1),(2,2)] [] ?_)|(refine fun(hc:(_:Bool)=_)=>?_;try simp only [hcS]at hc))
 all_goals try exact om_
 (first|refine aB ?_|refine aA ?_);simp only [go_sem,simprocAttr,Tryz.f139]
theorem gR {c:Cat} {x:Int} {rows:List (List Int)}:Spec Tryz.prog 139 [.bptr [] (aJV c x rows)] [] (.bor [] (aC rows)) []:=by
 refine aD (E:=TE) 0 Tryz.func139 rfl (by simp [Tryz.f139]) fun X hn hX=>?_
 repeat'(first|refine wkQ ?_|refine Tw.f ?_ ?_|(refine kcQ uQ ?_;refine kwQ (vV) [] [] ?_)|(refine fun(hc:(_:Bool)=_)=>?_;try simp only [hcS]at hc))
 all_goals try exact om_
 (first|refine aB ?_|refine aA ?_);simp only [go_sem,simprocAttr,Tryz.f139]
end Go.Eng
end
section
namespace Go.Eng
open Go Go.Proofs Go.Cats
@[go_sem] theorem aQi:(Value.slice none 0 0).oneCell'=true:=rfl
structure CYes (f e:Fun):Prop where
 src:IsFun f
 tgt:IsFun e
 one:f.tgt=e.tgt
 obs:(rP f e).length≤8
 ars:(cmA f e).length≤40
def CNo (f e:Fun) (c:Int):Prop:=
 (¬(IsFun f∧IsFun e)∧c=1)∨((IsFun f∧IsFun e)∧f.tgt≠e.tgt∧c=5)∨
 ((IsFun f∧IsFun e)∧f.tgt=e.tgt∧(8<(rP f e).length∨(rP f e).length≤8∧40<(cmA f e).length)∧c=3)
end Go.Eng
end
section
namespace Go.Eng
open Go Go.Proofs Go.Cats
section
variable {f e:Fun} {O A:List (List Int)} {ts:List (Nat×Nat)}
end
def kL (r:List Int):Lit:= .string (aE5 [r]).data.toList
def pm (A:List (List Int)):Nat→DataW Unit
 |0=> .map []
 |i+1=>(pm A i).put (kL (A.getD i [])) (.lit (.int .i64 i))
theorem aJ6 (A:List (List Int)):∀i,Go.Maps.IsMap (pm A i)
 |0=>Go.Maps.isMap_empty
 |i+1=>(aJ6 A i).put _ _
theorem aHA {a b:Int} (a0:0≤a) (a1:a<256) (b0:0≤b) (b1:b<256) (h:UInt8.ofNat a.toNat=UInt8.ofNat b.toNat):a=b:=by
 have h1:=congrArg UInt8.toNat h
 simp only [UInt8.toNat_ofNat']at h1
 omega
theorem qA:∀{l m:List Int},(∀x∈l,0≤x∧x<256)→(∀x∈m,0≤x∧x<256)→l.map (fun n=>UInt8.ofNat n.toNat)=m.map (fun n=>UInt8.ofNat n.toNat)→l=m
 |[],[],_,_,_=>rfl
 |[],_::_,_,_,h=>by simp at h
 |_::_,[],_,_,h=>by simp at h
 |a::l,b::m,hl,hm,h=>by
  simp only [List.map_cons,List.cons.injEq]at h
  have h1:=hl a (by simp)
  have h2:=hm b (by simp)
  rw [aHA h1.1 h1.2 h2.1 h2.2 h.1,qA (fun x hx=>hl x (by simp [hx])) (fun x hx=>hm x (by simp [hx])) h.2]
theorem aOH {r s:List Int} (hr:∀x∈r,0≤x∧x<256) (hs:∀x∈s,0≤x∧x<256) (h:kL r=kL s):r=s:=by
 unfold kL at h
 simp only [Lit.string.injEq,aE5,strOfNums_data,tX,List.flatMap_cons,List.flatMap_nil,List.append_nil]at h
 have h2:r++[255]=s++[255]:=qA (fun x hx=>by
  rcases List.mem_append.1 hx with hx|hx
  ·exact hr x hx
  ·simp at hx;omega) (fun x hx=>by
  rcases List.mem_append.1 hx with hx|hx
  ·exact hs x hx
  ·simp at hx;omega) h
 exact List.append_cancel_right h2
structure KeyOK (A:List (List Int)):Prop where
 b:∀r∈A,∀x∈r,0≤x∧x<256
 nd:A.Nodup
theorem aNP {A:List (List Int)} (h:KeyOK A) (z:DataW Unit):∀{i k:Nat},k<i→i≤A.length→(pm A i).atKey (kL (A.getD k [])) z= .lit (.int .i64 k)
 |0,_,hk,_=>by omega
 |i+1,k,hk,hi=>by
  have mi:A.getD i []∈A:=aBu (by omega)
  have mk:A.getD k []∈A:=aBu (by omega)
  by_cases e:k=i
  ·subst e
   exact Go.Maps.atKey_put_same (aJ6 A k) (show Go.WideAt.IsKeyLit (.string _) by simp [Go.WideAt.IsKeyLit]) _ _
  ·rw [pm,Go.Maps.atKey_put_other,aNP h z (by omega) (by omega)]
   intro hh
   have:=aOH (h.b _ mk) (h.b _ mi) hh
   refine e ?_
   have hnd:=h.nd
   unfold List.Nodup at hnd
   rw [List.pairwise_iff_getElem]at hnd
   rw [gL (by omega),gL (by omega)]at this
   rcases Nat.lt_trichotomy k i with hl|hl|hl
   ·exact absurd this (hnd k i (by omega) (by omega) hl)
   ·exact hl
   ·exact absurd this.symm (hnd i k (by omega) (by omega) hl)
theorem aJ5 {A:List (List Int)} (h:KeyOK A) (z:DataW Unit) {r:List Int} (hr:r∈A):(pm A A.length).atKey (kL r) z= .lit (.int .i64 (fnd A r)):=by
 obtain⟨i,hi,e,hf⟩:=wU hr
 rw [hf,←e]
 exact aNP h z hi (Nat.le_refl _)
theorem yY {r:List Int} (h:r.length≤64):(aE5 [r]).size≤maxLen:=by
 unfold aE5
 rw [strOfNums_size]
 simp only [tX,List.flatMap_cons,List.flatMap_nil,List.length_append,List.length_cons,List.length_nil]
 unfold maxLen;omega
theorem rI {r:List Int} (hl:r.length≤64) (hb:∀x∈r,0≤x∧x<256):Spec Tryz.prog 129 [.bor [] (aC [r])] [] (.v (.string (aE5 [r]))) []:=by
 refine aPr (ls:=[r]) (by simp) (fun i hi=>?_) fun i j hi hj=>?_
 ·have:i=0:=by simp at hi;exact hi
  subst this;exact hl
 ·have:i=0:=by simp at hi;exact hi
  subst this
  exact hb _ (aJR hj)
theorem aOJ:MapT Tryz.prog 112 9 2:=⟨Tryz.underlying112,Tryz.underlying9,Tryz.underlying2,fun w=>by
 have h1:(Tryz.prog.info? 2).bind (·.zero)=some (.int .i64 0):=by
  show(Tryz.prog.types[2]?).bind (·.zero)=_
  rw [Tryz.type2];rfl
 cases h2:Tryz.prog.info? 2 with
 |none=>rw [h2]at h1;cases h1
 |some i=>
  rw [h2]at h1
  have h3:i.zero=some (.int .i64 0):=h1
  simp [zeroValue,typeInfo,h2,h3]⟩
def flS (n:Nat) (F:Nat→Int) (i:Nat):List Int:=tb i F++List.replicate (n-i) 0
theorem aI1 (n:Nat) (F:Nat→Int):flS n F 0=List.replicate n 0:=by simp [flS,aGR]
@[go_sem] theorem aT5 (A:List (List Int)):pm A 0= .map []:=rfl
attribute [local go_sem] pB aI1
end Go.Eng
end
section
namespace Go.Eng
open Go Go.Proofs Go.Cats
attribute [local go_sem] fC fD
end Go.Eng
end
section
namespace Go.Eng
open Go Go.Proofs Go.Cats
structure MkOk (k:Int) (n:Nat):Prop where
 lo:0≤k
 hi:k+n≤9223372036854775807
/-! ### The marks are held -/
end Go.Eng
end
section
namespace Go.Eng
open Go Go.Proofs Go.Cats
def COut (f e:Fun) (c:Cat) (code:Int):Prop:=(CYes f e∧c=cmC f e (cmA f e).length∧code=0)∨(CNo f e code∧c=⟨0,[],[],[],[]⟩)
theorem aQS (f e:Fun):∃c code,COut f e c code:=by
 by_cases h1:IsFun f∧IsFun e
 ·by_cases h2:f.tgt=e.tgt
  ·by_cases h3:(rP f e).length≤8
   ·by_cases h4:(cmA f e).length≤40
    ·exact⟨_,_, .inl ⟨⟨h1.1,h1.2,h2,h3,h4⟩,rfl,rfl⟩⟩
    ·exact⟨_,3, .inr ⟨.inr (.inr ⟨h1,h2, .inr ⟨h3,by omega⟩,rfl⟩),rfl⟩⟩
   ·exact⟨_,3, .inr ⟨.inr (.inr ⟨h1,h2, .inl (by omega),rfl⟩),rfl⟩⟩
  ·exact⟨_,5, .inr ⟨.inr (.inl ⟨h1,h2,rfl⟩),rfl⟩⟩
 ·exact⟨_,1, .inr ⟨.inl ⟨h1,rfl⟩,rfl⟩⟩
theorem COut.b {f e:Fun} {c:Cat} {code:Int} (h:COut f e c code):CatB c:=by
 rcases h with⟨hy,rfl,rfl⟩|⟨hn,rfl⟩
 ·have h1:=hy.obs
  have h2:=hy.ars
  refine⟨?_,?_,?_,?_,?_,?_,fun i hi=>?_⟩
  ·simp only [cmC,aBZ];omega
  ·simp only [cmC,aBZ];omega
  ·simp only [cmC,aBZ,cJ];omega
  ·simp only [cmC,aBZ,cJ];omega
  ·simp only [cmC,aBZ,aAE];omega
  ·simp only [cmC,aBZ,aAE];omega
  ·simp only [cmC,aBZ,aAE]at hi
   simp only [cmC,aBZ]
   rw [Go.Cats.tb_at _ _ _ hi,aAE]
   omega
 ·exact⟨by simp,by simp,by simp,by simp,by simp,by simp,fun i hi=>by simp at hi⟩
end Go.Eng
end
section
namespace Go.Eng
open Go Go.Proofs Go.Cats
attribute [local go_sem] fC fD
theorem aQX {f e:Fun} (hy:CYes f e):CatB (cmC f e (cmA f e).length):=COut.b (.inl ⟨hy,rfl,rfl⟩)
noncomputable def cmF (f e:Fun):Fun:=⟨cmC f e (cmA f e).length,f.src,gK (rP f e) 0 (rP f e).length,gK (cmA f e) 2 (cmA f e).length⟩
noncomputable def cmG (f e:Fun):Fun:=⟨cmC f e (cmA f e).length,e.src,gK (rP f e) 1 (rP f e).length,gK (cmA f e) 3 (cmA f e).length⟩
theorem aQV {f e:Fun} (hf:FunB f) (hy:CYes f e):FunB (cmF f e):=⟨aQX hy,hf.src,by have:=hy.obs;simp only [cmF,cJ];omega,by have:=hy.ars;simp only [cmF,cJ];omega⟩
theorem aQW {f e:Fun} (he:FunB e) (hy:CYes f e):FunB (cmG f e):=⟨aQX hy,he.src,by have:=hy.obs;simp only [cmG,cJ];omega,by have:=hy.ars;simp only [cmG,cJ];omega⟩
def aFd:Fun:=⟨⟨0,[],[],[],[]⟩,⟨0,[],[],[],[]⟩,[],[]⟩
theorem aCr:FunB aFd:=by
 have h:CatB (⟨0,[],[],[],[]⟩:Cat):=⟨by simp,by simp,by simp,by simp,by simp,by simp,fun i hi=>by simp at hi⟩
 exact⟨h,h,by simp [aFd],by simp [aFd]⟩
def CommaLeftOut (f e g:Fun) (code:Int):Prop:=(CYes f e∧g=cmF f e∧code=0)∨(CNo f e code∧g=aFd)
theorem CommaLeftOut.ex (f e:Fun):∃g code,CommaLeftOut f e g code:=by
 obtain⟨c,code,⟨h,_,rfl⟩|⟨h,_⟩⟩:=aQS f e
 ·exact⟨_,_, .inl ⟨h,rfl,rfl⟩⟩
 ·exact⟨_,_, .inr ⟨h,rfl⟩⟩
theorem CommaLeftOut.b {f e g:Fun} {code:Int} (hf:FunB f) (he:FunB e) (h:CommaLeftOut f e g code):FunB g:=by
 rcases h with⟨hy,rfl,rfl⟩|⟨hn,rfl⟩
 ·exact aQV hf hy
 ·exact aCr
def CommaRightOut (f e g:Fun) (code:Int):Prop:=(CYes f e∧g=cmG f e∧code=0)∨(CNo f e code∧g=aFd)
theorem CommaRightOut.ex (f e:Fun):∃g code,CommaRightOut f e g code:=by
 obtain⟨c,code,⟨h,_,rfl⟩|⟨h,_⟩⟩:=aQS f e
 ·exact⟨_,_, .inl ⟨h,rfl,rfl⟩⟩
 ·exact⟨_,_, .inr ⟨h,rfl⟩⟩
theorem CommaRightOut.b {f e g:Fun} {code:Int} (hf:FunB f) (he:FunB e) (h:CommaRightOut f e g code):FunB g:=by
 rcases h with⟨hy,rfl,rfl⟩|⟨hn,rfl⟩
 ·exact aQW he hy
 ·exact aCr
end Go.Eng
end
