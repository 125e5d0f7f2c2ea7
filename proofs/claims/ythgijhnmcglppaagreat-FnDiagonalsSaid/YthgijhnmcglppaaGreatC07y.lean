/- Several texts in one: C07, C14, C15, Z15. -/
import Derived.Test.YthgijhnmcglppaaGreatKcfx
set_option linter.unusedSimpArgs false
set_option linter.unusedVariables false
set_option maxRecDepth 100000
set_option maxHeartbeats 16000000
section
namespace Go.Eng
open Go Go.Proofs Go.Cats
@[go_sem] theorem aSE:(Value.slice none 0 0).oneCell'=true:=rfl
structure CYes (f e:Fun):Prop where
 src:IsFun f
 tgt:IsFun e
 one:f.tgt=e.tgt
 obs:(vF f e).length≤8
 ars:(cmA f e).length≤40
def CNo (f e:Fun) (c:Int):Prop:=
 (¬(IsFun f∧IsFun e)∧c=1)∨((IsFun f∧IsFun e)∧f.tgt≠e.tgt∧c=5)∨
 ((IsFun f∧IsFun e)∧f.tgt=e.tgt∧(8<(vF f e).length∨(vF f e).length≤8∧40<(cmA f e).length)∧c=3)
end Go.Eng
end
section
namespace Go.Eng
open Go Go.Proofs Go.Cats
section
variable {f e:Fun} {O A:List (List Int)} {ts:List (Nat×Nat)}
end
def kL (r:List Int):Lit:= .string (tC [r]).data.toList
def pm (A:List (List Int)):Nat→DataW Unit
 |0=> .map []
 |i+1=>(pm A i).put (kL (A.getD i [])) (.lit (.int .i64 i))
theorem aMr (A:List (List Int)):∀i,Go.Maps.IsMap (pm A i)
 |0=>Go.Maps.isMap_empty
 |i+1=>(aMr A i).put _ _
theorem aJQ {a b:Int} (a0:0≤a) (a1:a<256) (b0:0≤b) (b1:b<256) (h:UInt8.ofNat a.toNat=UInt8.ofNat b.toNat):a=b:=by
 have h1:=congrArg UInt8.toNat h
 simp only [UInt8.toNat_ofNat']at h1
 omega
theorem mX:∀{l m:List Int},(∀x∈l,0≤x∧x<256)→(∀x∈m,0≤x∧x<256)→l.map (fun n=>UInt8.ofNat n.toNat)=m.map (fun n=>UInt8.ofNat n.toNat)→l=m
 |[],[],_,_,_=>rfl
 |[],_::_,_,_,h=>by simp at h
 |_::_,[],_,_,h=>by simp at h
 |a::l,b::m,hl,hm,h=>by
  simp only [List.map_cons,List.cons.injEq]at h
  have h1:=hl a (by simp)
  have h2:=hm b (by simp)
  rw [aJQ h1.1 h1.2 h2.1 h2.2 h.1,mX (fun x hx=>hl x (by simp [hx])) (fun x hx=>hm x (by simp [hx])) h.2]
theorem aQ1 {r s:List Int} (hr:∀x∈r,0≤x∧x<256) (hs:∀x∈s,0≤x∧x<256) (h:kL r=kL s):r=s:=by
 unfold kL at h
 simp only [Lit.string.injEq,tC,strOfNums_data,uF,List.flatMap_cons,List.flatMap_nil,List.append_nil]at h
 have h2:r++[255]=s++[255]:=mX (fun x hx=>by
  rcases List.mem_append.1 hx with hx|hx
  ·exact hr x hx
  ·simp at hx;omega) (fun x hx=>by
  rcases List.mem_append.1 hx with hx|hx
  ·exact hs x hx
  ·simp at hx;omega) h
 exact List.append_cancel_right h2
structure KeyOK (A:List (List Int)):Prop where
 b:∀r∈A,∀x∈r,0≤x∧x<256
 nd:A.Nodup
theorem aP9 {A:List (List Int)} (h:KeyOK A) (z:DataW Unit):∀{i k:Nat},k<i→i≤A.length→(pm A i).atKey (kL (A.getD k [])) z= .lit (.int .i64 k)
 |0,_,hk,_=>by omega
 |i+1,k,hk,hi=>by
  have mi:A.getD i []∈A:=aDp (by omega)
  have mk:A.getD k []∈A:=aDp (by omega)
  by_cases e:k=i
  ·subst e
   exact Go.Maps.atKey_put_same (aMr A k) (show Go.WideAt.IsKeyLit (.string _) by simp [Go.WideAt.IsKeyLit]) _ _
  ·rw [pm,Go.Maps.atKey_put_other,aP9 h z (by omega) (by omega)]
   intro hh
   have:=aQ1 (h.b _ mk) (h.b _ mi) hh
   refine e ?_
   have hnd:=h.nd
   unfold List.Nodup at hnd
   rw [List.pairwise_iff_getElem]at hnd
   rw [iV (by omega),iV (by omega)]at this
   rcases Nat.lt_trichotomy k i with hl|hl|hl
   ·exact absurd this (hnd k i (by omega) (by omega) hl)
   ·exact hl
   ·exact absurd this.symm (hnd i k (by omega) (by omega) hl)
theorem aRg {A:List (List Int)} (h:KeyOK A) (z:DataW Unit) {r:List Int} (hr:r∈A):(pm A A.length).atKey (kL r) z= .lit (.int .i64 (fnd A r)):=by
 obtain⟨i,hi,e,hf⟩:=vW hr
 rw [hf,←e]
 exact aP9 h z hi (Nat.le_refl _)
theorem aFE {r:List Int} (h:r.length≤64):(tC [r]).size≤maxLen:=by
 unfold tC
 rw [strOfNums_size]
 simp only [uF,List.flatMap_cons,List.flatMap_nil,List.length_append,List.length_cons,List.length_nil]
 unfold maxLen;omega
theorem aBC {r:List Int} (hl:r.length≤64) (hb:∀x∈r,0≤x∧x<256):Spec Tryz.prog 182 [.bor [] (aF [r])] [] (.v (.string (tC [r]))) []:=by
 refine aNo (ls:=[r]) (by simp) (fun i hi=>?_) fun i j hi hj=>?_
 ·have:i=0:=by simp at hi;exact hi
  subst this;exact hl
 ·have:i=0:=by simp at hi;exact hi
  subst this
  exact hb _ (aBk hj)
theorem aJF:MapT Tryz.prog 121 9 2:=⟨Tryz.underlying121,Tryz.underlying9,Tryz.underlying2,fun w=>by
 have h1:(Tryz.prog.info? 2).bind (·.zero)=some (.int .i64 0):=by
  show(Tryz.prog.types[2]?).bind (·.zero)=_
  rw [Tryz.type2];rfl
 cases h2:Tryz.prog.info? 2 with
 |none=>rw [h2]at h1;cases h1
 |some i=>
  rw [h2]at h1
  have h3:i.zero=some (.int .i64 0):=h1
  simp [zeroValue,typeInfo,h2,h3]⟩
def flS (n:Nat) (F:Nat→Int) (i:Nat):List Int:=tb i F++List.replicate (n-i) 0
theorem aLt (n:Nat) (F:Nat→Int):flS n F 0=List.replicate n 0:=by simp [flS,aIR]
@[go_sem] theorem aWQ (A:List (List Int)):pm A 0= .map []:=rfl
attribute [local go_sem] sD aLt
end Go.Eng
end
section
namespace Go.Eng
open Go Go.Proofs Go.Cats
attribute [local go_sem] gY gZ
end Go.Eng
end
section
namespace Go.Eng
open Go Go.Proofs Go.Cats
attribute [local go_sem] List.set_cons_zero List.set_cons_succ
structure CodeOk (l:List Int):Prop where
 len:l.length≤4096
 b:∀i,i<l.length→0≤l.getD i 0∧l.getD i 0<256
theorem CodeOk.src {l:List Int} (h:CodeOk l):RnOk (from_ l):=aOu h.len h.b
end Go.Eng
end
