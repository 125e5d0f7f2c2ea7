/- Several texts in one: C14, C15. -/
import Derived.Test.YtbflkfamigcncaaGreatC07q
set_option linter.unusedSimpArgs false
set_option linter.unusedVariables false
set_option maxRecDepth 100000
set_option maxHeartbeats 16000000
section
namespace Go.Eng
open Go Go.Proofs Go.Cats
def vT (f e:Fun) (O A:List (List Int)):List Dt:=[.pt (cD f), .pt (cD e),aE O,aE A]
section
variable {f e:Fun} {O A:List (List Int)} {ts:List (Nat×Nat)}
@[go_sem] theorem aUJ:(vT f e O A).take 1=[.pt (cD f)]:=rfl
@[go_sem] theorem aUK:((vT f e O A).drop 1).take 1=[.pt (cD e)]:=rfl
@[go_sem] theorem aUL:((vT f e O A).drop 2).take 1=[aE O]:=rfl
@[go_sem] theorem aUM:((vT f e O A).drop 3).take 1=[aE A]:=rfl
@[go_sem] theorem aUO:(vT f e O A).length=4:=rfl
@[go_sem] theorem aUN:(vT f e O A).take 4=vT f e O A:=rfl
end
def kL (r:List Int):Lit:= .string (aE9 [r]).data.toList
def pm (A:List (List Int)):Nat→DataW Unit
 |0=> .map []
 |i+1=>(pm A i).put (kL (A.getD i [])) (.lit (.int .i64 i))
theorem aJi (A:List (List Int)):∀i,Go.Maps.IsMap (pm A i)
 |0=>Go.Maps.isMap_empty
 |i+1=>(aJi A i).put _ _
theorem aHs {a b:Int} (a0:0≤a) (a1:a<256) (b0:0≤b) (b1:b<256) (h:UInt8.ofNat a.toNat=UInt8.ofNat b.toNat):a=b:=by
 have h1:=congrArg UInt8.toNat h
 simp only [UInt8.toNat_ofNat']at h1
 omega
theorem rV:∀{l m:List Int},(∀x∈l,0≤x∧x<256)→(∀x∈m,0≤x∧x<256)→l.map (fun n=>UInt8.ofNat n.toNat)=m.map (fun n=>UInt8.ofNat n.toNat)→l=m
 |[],[],_,_,_=>rfl
 |[],_::_,_,_,h=>by simp at h
 |_::_,[],_,_,h=>by simp at h
 |a::l,b::m,hl,hm,h=>by
  simp only [List.map_cons,List.cons.injEq]at h
  have h1:=hl a (by simp)
  have h2:=hm b (by simp)
  rw [aHs h1.1 h1.2 h2.1 h2.2 h.1,rV (fun x hx=>hl x (by simp [hx])) (fun x hx=>hm x (by simp [hx])) h.2]
theorem aNy {r s:List Int} (hr:∀x∈r,0≤x∧x<256) (hs:∀x∈s,0≤x∧x<256) (h:kL r=kL s):r=s:=by
 unfold kL at h
 simp only [Lit.string.injEq,aE9,strOfNums_data,wB,List.flatMap_cons,List.flatMap_nil,List.append_nil]at h
 have h2:r++[255]=s++[255]:=rV (fun x hx=>by
  rcases List.mem_append.1 hx with hx|hx
  ·exact hr x hx
  ·simp at hx;omega) (fun x hx=>by
  rcases List.mem_append.1 hx with hx|hx
  ·exact hs x hx
  ·simp at hx;omega) h
 exact List.append_cancel_right h2
structure KeyOK (A:List (List Int)):Prop where
 b:∀r∈A,∀x∈r,0≤x∧x<256
 nd:A.Nodup
theorem aMt {A:List (List Int)} (h:KeyOK A) (z:DataW Unit):∀{i k:Nat},k<i→i≤A.length→(pm A i).atKey (kL (A.getD k [])) z= .lit (.int .i64 k)
 |0,_,hk,_=>by omega
 |i+1,k,hk,hi=>by
  have mi:A.getD i []∈A:=kN (by omega)
  have mk:A.getD k []∈A:=kN (by omega)
  by_cases e:k=i
  ·subst e
   exact Go.Maps.atKey_put_same (aJi A k) (show Go.WideAt.IsKeyLit (.string _) by simp [Go.WideAt.IsKeyLit]) _ _
  ·rw [pm,Go.Maps.atKey_put_other,aMt h z (by omega) (by omega)]
   intro hh
   have:=aNy (h.b _ mk) (h.b _ mi) hh
   refine e ?_
   have hnd:=h.nd
   unfold List.Nodup at hnd
   rw [List.pairwise_iff_getElem]at hnd
   rw [iI (by omega),iI (by omega)]at this
   rcases Nat.lt_trichotomy k i with hl|hl|hl
   ·exact absurd this (hnd k i (by omega) (by omega) hl)
   ·exact hl
   ·exact absurd this.symm (hnd i k (by omega) (by omega) hl)
theorem aJg {A:List (List Int)} (h:KeyOK A) (z:DataW Unit) {r:List Int} (hr:r∈A):(pm A A.length).atKey (kL r) z= .lit (.int .i64 (fnd A r)):=by
 obtain⟨i,hi,e,hf⟩:=yY hr
 rw [hf,←e]
 exact aMt h z hi (Nat.le_refl _)
theorem aAm {r:List Int} (h:r.length≤64):(aE9 [r]).size≤maxLen:=by
 unfold aE9
 rw [strOfNums_size]
 simp only [wB,List.flatMap_cons,List.flatMap_nil,List.length_append,List.length_cons,List.length_nil]
 unfold maxLen;omega
theorem sZ {r:List Int} (hl:r.length≤64) (hb:∀x∈r,0≤x∧x<256):Spec Tryz.prog 136 [.bor [] (aE [r])] [] (.v (.string (aE9 [r]))) []:=by
 refine aOg (ls:=[r]) (by simp) (fun i hi=>?_) fun i j hi hj=>?_
 ·have:i=0:=by simp at hi;exact hi
  subst this;exact hl
 ·have:i=0:=by simp at hi;exact hi
  subst this
  exact hb _ (aAq hj)
theorem aNA:MapT Tryz.prog 114 9 2:=⟨Tryz.underlying114,Tryz.underlying9,Tryz.underlying2,fun w=>by
 have h1:(Tryz.prog.info? 2).bind (·.zero)=some (.int .i64 0):=by
  show(Tryz.prog.types[2]?).bind (·.zero)=_
  rw [Tryz.type2];rfl
 cases h2:Tryz.prog.info? 2 with
 |none=>rw [h2]at h1;cases h1
 |some i=>
  rw [h2]at h1
  have h3:i.zero=some (.int .i64 0):=h1
  simp [zeroValue,typeInfo,h2,h3]⟩
theorem aAl {f e:Fun} (h:CYes f e):KeyOK (cmA f e):=by
 refine⟨fun r hr x hx=>?_,zS f e _⟩
 obtain⟨s,t,u,v,hs,ht,hu,hv,_,rfl⟩:=mem_cArr.1 hr
 have h1:=mem_cU.1 hu
 have h2:=mem_cU.1 hv
 have h3:=h.obs
 have h4:=h.src.src.m40
 have h5:=h.tgt.src.m40
 simp only [List.mem_cons,List.not_mem_nil,or_false]at hx
 rcases hx with rfl|rfl|rfl|rfl<;>omega
theorem aIb {f e:Fun} (h:CYes f e) {a b:Nat} (ha:a<(cmA f e).length) (hb:b<(cmA f e).length) (hc:rw' (cmA f e) a 1=rw' (cmA f e) b 0):zQ (cmA f e) f.src e.src a b∈cmA f e:=by
 have ma:(cmA f e).getD a []∈kF f e (aK f e):=kN ha
 have mb:(cmA f e).getD b []∈kF f e (aK f e):=kN hb
 obtain⟨s,t,u,v,hs,ht,hu,hv,hcc,e1⟩:=mem_cArr.1 ma
 obtain⟨s',t',u',v',hs',ht',hu',hv',hcc',e2⟩:=mem_cArr.1 mb
 unfold rw' at hc
 unfold zQ rw'
 rw [e1,e2]at hc⊢
 have et:t=s':=by
  have:(t:Int)=(s':Int):=by simpa using hc
  omega
 subst et
 exact aBH h.src h.tgt h.one (fG h.src h.tgt h.one) hs ht ht' hu hv hcc hu' hv' hcc'
theorem rN {f e:Fun} (hy:CYes f e) {a b:Nat} (ha:a<(cmA f e).length) (hb:b<(cmA f e).length) (hc:rw' (cmA f e) a 1=rw' (cmA f e) b 0):Spec Tryz.prog 138 [iv a,iv b, .bptr [] [.pt (vT f e (aK f e) (cmA f e))], .bptr [] [mapD Tryz.prog 9 2 (cmA f e).length (pm (cmA f e) (cmA f e).length)], .bptr [] [.pt (fP f.src)], .bptr [] [.pt (fP e.src)]] [] (iv (fnd (cmA f e) (zQ (cmA f e) f.src e.src a b))) []:=by
 refine aD (E:=TE) 0 Tryz.func138 rfl (by simp [Tryz.f138]) fun X hn hX=>?_
 have ok:=yV f e (aK f e)
 have oa:ArrR f.src e.src ((cmA f e).getD a []):=ok a ha
 have ob:ArrR f.src e.src ((cmA f e).getD b []):=ok b hb
 obtain⟨a4,au0,au1,av0,av1⟩:=oa
 obtain⟨b4,bu0,bu1,bv0,bv1⟩:=ob
 have f6:=hy.src.src.toShape.col
 have f7:=hy.src.src.toShape.comp_row au0 au1
 have e6:=hy.tgt.src.toShape.col
 have e7:=hy.tgt.src.toShape.comp_row av0 av1
 have km:=aIb hy ha hb hc
 have k1:(zQ (cmA f e) f.src e.src a b).length≤64:=by simp [zQ]
 have k2:=(aAl hy).b _ km
 have k3:=aAm k1
 have k4:=aJg (aAl hy) (.lit (.int .i64 0)) km
 repeat'(first|(with_reducible first|refine St.f ?_|refine V_c ?_|refine eDn ?_|refine And.intro ?_ ?_|refine aM ?_ ?_)|((refine aY ?_);intro K hK)|((with_reducible refine So.f ?_);intro K hK;simp(contextual:=true)only [go_sem,simprocAttr])|((with_reducible refine hK _ ?_);clear hK K)|((with_reducible refine aC 139 ?_);refine EvCall.rr (bJ (c:=f.src) ?_ ?_ ?_ ?_) bG ?_)|((with_reducible refine aC 139 ?_);refine EvCall.rr (bJ (c:=e.src) ?_ ?_ ?_ ?_) bG ?_)|((with_reducible refine aC 136 ?_);refine EvCall.rq (a:=(sZ (r:=zQ (cmA f e) f.src e.src a b) (by first|omega|assumption|rfl) (by first|omega|assumption|rfl))) (b:=aCG) (c:=?_);all_goals try simp only [go_sem,simprocAttr])|(refine aBm aNA (by simp only [go_sem,simprocAttr];rfl) (by simp only [go_sem,simprocAttr]) (by simp only [go_sem,simprocAttr]) k3 k4 ?_;simp only [go_sem,simprocAttr])|(refine fun(hc:(_:Bool)=_)=>?_;try simp only [hcS]at hc))
 all_goals try exact om_
 (first|refine aB ?_|refine aA ?_);simp only [go_sem,simprocAttr,Tryz.f138]
def flS (n:Nat) (F:Nat→Int) (i:Nat):List Int:=tb i F++List.replicate (n-i) 0
theorem aIz (n:Nat) (F:Nat→Int):flS n F 0=List.replicate n 0:=by simp [flS,aGK]
theorem aKW {n:Nat} {F:Nat→Int} {i:Nat} (h:i≤n):(flS n F i).length=n:=by simp [flS,lM];omega
theorem aKX {n:Nat} {F:Nat→Int} {i:Nat} (h:i<n):(flS n F i).set i (F i)=flS n F (i+1):=by
 have e:n-i=n-(i+1)+1:=by omega
 unfold flS
 rw [List.set_append_right _ _ (by rw [lM];omega),lM,Nat.sub_self,e,vI]
 simp [List.replicate_succ]
theorem aIy (n:Nat) (F:Nat→Int):flS n F n=tb n F:=by simp [flS]
noncomputable abbrev aDF (f e:Fun):Nat→Int:=bId (cmA f e) f.src e.src (bP (aK f e) 0 (aK f e).length) (bP (aK f e) 1 (aK f e).length)
def aE7 (f e:Fun) (p:Nat):List Int:=[(p:Int),(p:Int),f.src.id.getD (((aK f e).getD p []).getD 0 0).toNat 0,e.src.id.getD (((aK f e).getD p []).getD 1 0).toNat 0]
theorem aIM {f e:Fun} (h:CYes f e) {p:Nat} (hp:p<(aK f e).length):aE7 f e p∈cmA f e:=aFX h.src h.tgt h.one (fG h.src h.tgt h.one) hp
theorem aKJ {f e:Fun} {p:Nat} (hp:p<(aK f e).length):aDF f e p=fnd (cmA f e) (aE7 f e p):=by
 unfold aDF bId aE7
 rw [fH hp (Nat.le_refl _),fH hp (Nat.le_refl _)]
theorem aM8 (f e:Fun):jU (bP (cmA f e) 0 (cmA f e).length) (bP (cmA f e) 1 (cmA f e).length) (fun a b=>fnd (cmA f e) (zQ (cmA f e) f.src e.src a b)) (cmA f e).length=(cmC f e (cmA f e).length).co:=by
 unfold jU cmC nJ tb
 have hl:(bP (cmA f e) 0 (cmA f e).length).length=(cmA f e).length:=by simp [aZ]
 rw [hl]
 refine List.map_congr_left fun i hi=>List.map_congr_left fun j hj=>?_
 have hi':=List.mem_range.1 hi
 have hj':=List.mem_range.1 hj
 unfold aEC aCA
 rw [fH hi' (Nat.le_refl _),fH hj' (Nat.le_refl _)]
theorem pD:aF Tryz.prog 138:=⟨_,Tryz.func138,rfl,rfl⟩
noncomputable def aPT (f e:Fun):LC:=⟨[.bptr [] [.pt (vT f e (aK f e) (cmA f e))], .bptr [] [mapD Tryz.prog 9 2 (cmA f e).length (pm (cmA f e) (cmA f e).length)], .bptr [] [.pt (fP f.src)], .bptr [] [.pt (fP e.src)]],rfl⟩
@[go_sem] theorem aUI (f e:Fun):(aPT f e).l=[.bptr [] [.pt (vT f e (aK f e) (cmA f e))], .bptr [] [mapD Tryz.prog 9 2 (cmA f e).length (pm (cmA f e) (cmA f e).length)], .bptr [] [.pt (fP f.src)], .bptr [] [.pt (fP e.src)]]:=rfl
@[go_sem] theorem aST (A:List (List Int)):pm A 0= .map []:=rfl
attribute [local go_sem] mV aIz
theorem gO:aF Tryz.prog 65:=⟨_,Tryz.func65,rfl,rfl⟩
theorem iQ {f e:Fun} (hy:CYes f e):Spec Tryz.prog 65 [.bptr [] (vT f e (aK f e) (cmA f e))] [] (.agg [iv (aK f e).length, .sl 0, .sl 1, .sl 2, .sl 3]) [(0,⟨1, .arr (ints (bP (cmA f e) 0 (cmA f e).length))⟩),(1,⟨1, .arr (ints (bP (cmA f e) 1 (cmA f e).length))⟩),(2,⟨1, .arr (ints (cmC f e 0).id)⟩),(3,⟨1, .arr (aE (cmC f e (cmA f e).length).co)⟩)]:=by
 refine aD (E:=TE) 0 Tryz.func65 rfl (by simp [Tryz.f65]) fun X hn hX=>?_
 have hk:=aAl hy
 have y4:=hy.obs
 have y5:=hy.ars
 have ok:=yV f e (aK f e)
 have oo:=fG hy.src hy.tgt hy.one
 repeat'(first|(refine fD 3 (Imp.adoptI 3 1 _ _ rfl rfl rfl (by rw [hX];rfl)) ?_;refine fD 3 (Imp.adoptI 3 2 _ _ rfl rfl rfl (by rw [hX];rfl)) ?_;simp only [List.set_cons_succ,List.set_cons_zero])|(with_reducible first|refine St.f ?_|refine V_c ?_|refine eDn ?_|refine And.intro ?_ ?_|refine aM ?_ ?_|refine aP ?_)|((refine aY ?_);intro K hK)|((with_reducible refine So.f ?_);intro K hK;simp(contextual:=true)only [go_sem,simprocAttr])|((with_reducible refine hK _ ?_);clear hK K)|(refine aCQ (k:=9) (e:=2) (by simp only [go_sem,simprocAttr]) ?_;simp only [go_sem,simprocAttr])|(refine fun(hc:(_:Bool)=_)=>?_;try simp only [hcS]at hc))
 all_goals try exact om_
 refine aH (G:={i:Nat//i≤(cmA f e).length∧(True)}) (fun⟨i,_⟩=>[(29,iv i)]) [1,2,3,4,27,28] (fun⟨i,_⟩=>[(3,⟨1, .box [iv (aK f e).length, .sl 6, .sl 7, .sl 2, .v (.slice none 0 0)]⟩),(6,⟨1, .arr (ints (bP (cmA f e) 0 i))⟩),(7,⟨1, .arr (ints (bP (cmA f e) 1 i))⟩),(4,⟨1, .arr (mapD Tryz.prog 9 2 i (pm (cmA f e) i))⟩)]) [3,4,6,7] (fun zz=>(cmA f e).length-zz.1) ⟨0,Nat.zero_le _,by first|trivial|simp⟩ ?_ ?_
 ·exact Imp.au hX
 rintro⟨i,hii,hwi⟩
 simp only [go_sem,simprocAttr]
 have l0:=fun h=>kJ (l:=cmA f e) (k:=0) (n:=i) h
 have l1:=fun h=>kJ (l:=cmA f e) (k:=1) (n:=i) h
 have l2:=aZ (cmA f e) 0 i
 have l3:=aZ (cmA f e) 1 i
 have m0:=fun h=>kN (l:=cmA f e) (i:=i) h
 have m1:=fun h:i<(cmA f e).length=>(ok i h).len
 have m2:i<(cmA f e).length→((cmA f e).getD i []).length=4:=m1
 have m3:i<(cmA f e).length→((cmA f e).getD i []).length≤64:=fun h=>by have:=m2 h;omega
 have m4:i<(cmA f e).length→∀x∈(cmA f e).getD i [],0≤x∧x<256:=fun h=>hk.b _ (m0 h)
 have m5:=fun h=>aAm (m3 h)
 have m6:i<maxLen:=by unfold maxLen;omega
 repeat'(first|(with_reducible first|refine St.f ?_|refine V_c ?_|refine eDn ?_|refine And.intro ?_ ?_|refine aM ?_ ?_|refine aP ?_)|((refine aY ?_);intro K hK)|((with_reducible refine So.f ?_);intro K hK;simp(contextual:=true)only [go_sem,simprocAttr])|((with_reducible refine hK _ ?_);clear hK K)|((with_reducible refine aC 136 ?_);refine EvCall.rr (sZ (r:=(cmA f e).getD i []) (m3 (by omega)) (m4 (by omega))) aCG ?_)|(refine aAj (i:=4) (cv:=1) (n:=i) (z:=(i:Int)) (D:=pm (cmA f e) i) aNA rfl (by simp only [go_sem,simprocAttr]) (by simp only [go_sem,simprocAttr]) (by simp only [go_sem,simprocAttr]) (m5 (by omega)) (by simp only [go_sem,simprocAttr]) ⟨by omega,by omega⟩ m6 ?_;simp only [go_sem,simprocAttr])|(refine fun(hc:(_:Bool)=_)=>?_;try simp only [hcS]at hc))
 all_goals try exact om_
 ·have e9:pm (cmA f e) (i+1)=(pm (cmA f e) i).put (.string (aE9 [(cmA f e).getD i []]).data.toList) (.lit (.int .i64 i)):=rfl
  have l0':=l0 (by omega)
  have l1':=l1 (by omega)
  refine⟨⟨i+1,by omega,(by trivial)⟩,by simp only;omega,Imp.auto hX (by simp only [go_sem,simprocAttr,l0',l1',e9])⟩
 ·have e:i=(cmA f e).length:=by omega
  subst e
  clear l0 l1 m0 m1 m2 m3 m4 m5
  refine aH (G:={p:Nat//p≤(aK f e).length∧(True)}) (fun⟨p,_⟩=>[(73,iv p)]) [1,2,3,4,7,8,71,72] (fun⟨p,_⟩=>[(2,⟨1, .arr (ints (flS (aK f e).length (aDF f e) p))⟩)]) [2] (fun zz=>(aK f e).length-zz.1) ⟨0,Nat.zero_le _,by first|trivial|simp⟩ ?_ ?_
  ·exact Imp.au hX
  rintro⟨p,hip,hwp⟩
  simp only [go_sem,simprocAttr]
  have n0:=fun h:p<(aK f e).length=>oo p h
  have n1:p<(aK f e).length→((aK f e).getD p []).length=3∧0≤((aK f e).getD p []).getD 0 0∧((aK f e).getD p []).getD 0 0<f.src.ob∧0≤((aK f e).getD p []).getD 1 0∧((aK f e).getD p []).getD 1 0<e.src.ob:=fun h=>⟨(n0 h).len,(n0 h).lo,(n0 h).lh,(n0 h).ro,(n0 h).rh⟩
  have i1:=hy.src.src.idl
  have i2:=hy.tgt.src.idl
  have n2:=fun h:p<(aK f e).length=>aIM hy h
  have n3:(aE7 f e p).length≤64:=by simp [aE7]
  have n4:=fun h=>hk.b _ (n2 h)
  have n5:=aAm n3
  have n6:=fun h=>aJg hk (.lit (.int .i64 0)) (n2 h)
  have n7:=aKW (n:=(aK f e).length) (F:=aDF f e) (i:=p) (by omega)
  have c0:=aZ (cmA f e) 0 (cmA f e).length
  have c1:=aZ (cmA f e) 1 (cmA f e).length
  have T:=uV (ob:=((aK f e).length:Int)) (fr:=bP (cmA f e) 0 (cmA f e).length) (to:=bP (cmA f e) 1 (cmA f e).length) (id:=flS (aK f e).length (aDF f e) p) (F:=138) (cp:=aPT f e) (h:=fun a b=>fnd (cmA f e) (zQ (cmA f e) f.src e.src a b))
   pD (fun a b ha hb hc=>rN hy (by omega) (by omega) (by rw [fH (by omega) (Nat.le_refl _),fH (by omega) (Nat.le_refl _)]at hc;exact hc)) (by omega) (by omega) (by omega)
  repeat'(first|(with_reducible first|refine St.f ?_|refine V_c ?_|refine eDn ?_|refine And.intro ?_ ?_|refine aM ?_ ?_|refine aP ?_)|((refine aY ?_);intro K hK)|((with_reducible refine So.f ?_);intro K hK;simp(contextual:=true)only [go_sem,simprocAttr])|((with_reducible refine hK _ ?_);clear hK K)|((with_reducible refine aC 137 ?_);refine EvCall.mr (T) sB [(0,3),(1,6),(2,7),(3,2),(4,10)] [0,5,8,9,4] ?_)|((with_reducible refine aC 136 ?_);refine EvCall.rr (sZ (r:=aE7 f e p) n3 (n4 (by omega))) aCG ?_)|(refine aDS (i:=4) (cv:=1) (n:=(cmA f e).length) aNA (by simp only [go_sem,simprocAttr]) (by simp only [go_sem,simprocAttr]) (by simp only [go_sem,simprocAttr]) n5 (n6 (by omega)) ?_;simp only [go_sem,simprocAttr])|(refine fun(hc:(_:Bool)=_)=>?_;try simp only [hcS]at hc))
  all_goals try exact om_
  ·have e9:(flS (aK f e).length (aDF f e) p).set p (fnd (cmA f e) (aE7 f e p))=flS (aK f e).length (aDF f e) (p+1):=by
    rw [←aKJ (by omega)];exact aKX (by omega)
   refine⟨⟨p+1,by omega,(by trivial)⟩,by simp only;omega,Imp.auto hX (by simp only [go_sem,simprocAttr,e9])⟩
  ·have e:p=(aK f e).length:=by omega
   subst e
   have e9:=aM8 f e
   have e8:(cmC f e 0).id=flS (aK f e).length (aDF f e) (aK f e).length:=(aIy _ _).symm
   have e7:(bP (cmA f e) 0 (cmA f e).length).length=(cmA f e).length:=by omega
   (first|refine aB ?_|refine aA ?_);simp only [go_sem,simprocAttr,Tryz.f65]
   simp only [e7,e8,e9,Nat.min_self,and_self]
end Go.Eng
end
section
namespace Go.Eng
open Go Go.Proofs Go.Cats
attribute [local go_sem] gS gT
theorem eH:aF Tryz.prog 111:=⟨_,Tryz.func111,rfl,rfl⟩
theorem gE {f e:Fun} (hf:FunB f) (he:FunB e) (hy:CYes f e):Spec Tryz.prog 111 [.bptr [] (cD f), .bptr [] (cD e)] [] (.tup [.ptr 0 0,iv 0]) [(0,⟨1, .box [.bptr [(1,1)] (cD f), .bptr [(1,1)] (cD e), .sl 1, .sl 2]⟩),(1,⟨1, .arr (aE (aK f e))⟩),(2,⟨1, .arr (aE (cmA f e))⟩)]:=by
 refine aD (E:=TE) 0 Tryz.func111 rfl (by simp [Tryz.f111]) fun X hn hX=>?_
 have f1:=hf.tgt
 have e1:=he.tgt
 have h6:IsFun f∧IsFun e:=⟨hy.src,hy.tgt⟩
 have T:=aBs hy.src hy.tgt hy.one hy.obs hy.ars
 repeat'(first|refine wkQ ?_|refine Tw.f ?_ ?_|(refine kcQ dW ?_;refine ksQ (a:=cQ (by first|omega|assumption|rfl) (by first|omega|assumption|rfl)) (c:=?_))|(refine kcQ dM ?_;refine krQ (eB (c:=f.tgt) (d:=e.tgt) ?_ ?_) ?_)|(refine kcQ xE ?_;refine kwQ (T) [(0,1),(1,2),(2,3)] [] ?_)|(refine fun(hc:(_:Bool)=_)=>?_;try simp only [hcS]at hc))
 all_goals try exact om_
 ·exact absurd h6 hc
 ·exact absurd hy.one hc
 ·(first|refine aB ?_|refine aA ?_);simp only [go_sem,simprocAttr,Tryz.f111]
  rfl
theorem jZ {f e:Fun} {c:Int} (hf:FunB f) (he:FunB e) (h:CNo f e c):Spec Tryz.prog 111 [.bptr [] (cD f), .bptr [] (cD e)] [] (.tup [.v (.pointer none),iv c]) []:=by
 refine aD (E:=TE) 0 Tryz.func111 rfl (by simp [Tryz.f111]) fun X hn hX=>?_
 have f1:=hf.tgt
 have e1:=he.tgt
 rcases h with⟨h6,rfl⟩|⟨h6,h7,rfl⟩|⟨h6,h7,h8,rfl⟩
 ·repeat'(first|refine wkQ ?_|refine Tw.f ?_ ?_|(refine kcQ dW ?_;refine ksQ (a:=cQ (by first|omega|assumption|rfl) (by first|omega|assumption|rfl)) (c:=?_))|(refine fun(hc:(_:Bool)=_)=>?_;try simp only [hcS]at hc))
  all_goals try exact om_
  ·(first|refine aB ?_|refine aA ?_);simp only [go_sem,simprocAttr,Tryz.f111]
  all_goals exact absurd (by assumption) h6
 ·repeat'(first|refine wkQ ?_|refine Tw.f ?_ ?_|(refine kcQ dW ?_;refine ksQ (a:=cQ (by first|omega|assumption|rfl) (by first|omega|assumption|rfl)) (c:=?_))|(refine kcQ dM ?_;refine krQ (eB (c:=f.tgt) (d:=e.tgt) ?_ ?_) ?_)|(refine fun(hc:(_:Bool)=_)=>?_;try simp only [hcS]at hc))
  all_goals try exact om_
  ·exact absurd h6 hc
  ·(first|refine aB ?_|refine aA ?_);simp only [go_sem,simprocAttr,Tryz.f111]
  ·exact absurd hc h7
 ·have T:Spec Tryz.prog 77 [.bptr [] (cD f), .bptr [] (cD e)] [] (.tup [.v (.pointer none), .v (.bool false)]) []:=by
   rcases h8 with h8|⟨h8,h9⟩
   ·exact aAI h6.1 h6.2 h7 h8
   ·exact yL h6.1 h6.2 h7 h8 h9
  repeat'(first|refine wkQ ?_|refine Tw.f ?_ ?_|(refine kcQ dW ?_;refine ksQ (a:=cQ (by first|omega|assumption|rfl) (by first|omega|assumption|rfl)) (c:=?_))|(refine kcQ dM ?_;refine krQ (eB (c:=f.tgt) (d:=e.tgt) ?_ ?_) ?_)|(refine kcQ xE ?_;refine kwQ (T) [] [] ?_)|(refine fun(hc:(_:Bool)=_)=>?_;try simp only [hcS]at hc))
  all_goals try exact om_
  ·exact absurd h6 hc
  ·exact absurd h7 hc
  ·(first|refine aB ?_|refine aA ?_);simp only [go_sem,simprocAttr,Tryz.f111]
theorem lX:aF Tryz.prog 45:=⟨_,Tryz.func45,rfl,rfl⟩
theorem pY {f e:Fun} (hf:FunB f) (he:FunB e) (hy:CYes f e):Spec Tryz.prog 45 [cK f,cK e] []
  (.tup [.agg [iv (aK f e).length, .sl 0, .sl 1, .sl 2, .sl 3],iv 0]) [(0,⟨1, .arr (ints (cmC f e 0).fr)⟩),(1,⟨1, .arr (ints (cmC f e 0).to)⟩),(2,⟨1, .arr (ints (cmC f e 0).id)⟩),(3,⟨1, .arr (aE (cmC f e (cmA f e).length).co)⟩)]:=by
 refine aD (E:=TE) 0 Tryz.func45 rfl (by simp [Tryz.f45]) fun X hn hX=>?_
 repeat'(first|refine wkQ ?_|refine Tw.f ?_ ?_|(refine kcQ eH ?_;refine ksQ (a:=gE (by first|omega|assumption|rfl) (by first|omega|assumption|rfl) (by first|omega|assumption|rfl)) (c:=?_))|(refine kcQ gO ?_;refine krQ (iQ (f:=f) (e:=e) ?_) ?_)|(refine fun(hc:(_:Bool)=_)=>?_;try simp only [hcS]at hc))
 all_goals try exact om_
 (first|refine aB ?_|refine aA ?_);simp only [go_sem,simprocAttr,Tryz.f45]
 exact⟨rfl,rfl⟩
theorem rL {f e:Fun} {c:Int} (hf:FunB f) (he:FunB e) (h:CNo f e c):Spec Tryz.prog 45 [cK f,cK e] []
  (.tup [.agg [iv 0, .v (.slice none 0 0), .v (.slice none 0 0), .v (.slice none 0 0), .v (.slice none 0 0)],iv c]) []:=by
 refine aD (E:=TE) 0 Tryz.func45 rfl (by simp [Tryz.f45]) fun X hn hX=>?_
 have hc0:c≠0:=by rcases h with⟨_,rfl⟩|⟨_,_,rfl⟩|⟨_,_,_,rfl⟩<;>decide
 repeat'(first|refine wkQ ?_|refine Tw.f ?_ ?_|(refine kcQ eH ?_;refine ksQ (a:=jZ (by first|omega|assumption|rfl) (by first|omega|assumption|rfl) (by first|omega|assumption|rfl)) (c:=?_))|(refine fun(hc:(_:Bool)=_)=>?_;try simp only [hcS]at hc))
 all_goals try exact om_
 ·(first|refine aB ?_|refine aA ?_);simp only [go_sem,simprocAttr,Tryz.f45]
end Go.Eng
end
