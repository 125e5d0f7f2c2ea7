/- Several texts in one: Q04, Q05. -/
import Derived.Test.YthgijhnmcglppaaGreatQ03q
set_option linter.unusedSimpArgs false
set_option linter.unusedVariables false
set_option maxRecDepth 100000
set_option maxHeartbeats 16000000
section
namespace Go.Eng
open Go Go.Proofs Go.Cats
attribute [local go_sem] List.set_cons_zero List.set_cons_succ
theorem aCp:aE Tryz.prog 251:=⟨_,Tryz.func251,rfl,rfl⟩
theorem aEC {c d:Cat} {b:Bool} {F:List Fun} {M:Nat} (sc:Shape c):Spec Tryz.prog 251 [.bptr [] (aU c), .bptr [] (aU d), .v (.bool b), .fn 252 [.ptr 3 0, .ptr 4 0, .ptr 5 0, .ptr 6 0]] [(3,⟨1, .bx [.dead] 0 (aS (F))⟩),(4,⟨1, .box [.bptr [] (aU c)]⟩),(5,⟨1, .box [.bptr [] (aU d)]⟩),(6,⟨1, .box [iv M]⟩)] (.ptr 0 0) [(0,⟨1, .box [.bptr [] (aU c), .bptr [] (aU d), .sl 1, .sl 2, .v (.bool b), .fn 252 [.ptr 3 0, .ptr 4 0, .ptr 5 0, .ptr 6 0]]⟩),(1,⟨1, .arr (ints (List.replicate c.ob.toNat 0))⟩),(2,⟨1, .arr (ints (List.replicate c.fr.length 0))⟩),(3,⟨1, .bx [.dead] 0 (aS (F))⟩),(4,⟨1, .box [.bptr [] (aU c)]⟩),(5,⟨1, .box [.bptr [] (aU d)]⟩),(6,⟨1, .box [iv M]⟩)]:=by
 refine aD (E:=TE) 7 Tryz.func251 rfl (by simp [Tryz.f251]) fun X hn hX=>?_
 have m40:=sc.m40
 have n8:=sc.ob8
 have o0:=sc.ob0
 repeat'(first|refine wkQ ?_|refine Tw.f ?_ ?_|(refine kcQ aT ?_;refine krQ (aX) ?_)|(refine fun(hc:(_:Bool)=_)=>?_;try simp only [hcS]at hc))
 all_goals try exact om_
 ·(first|refine aB ?_|refine aA ?_);simp only [go_sem,simprocAttr,Tryz.f251]
theorem gT:aE Tryz.prog 163:=⟨_,Tryz.func163,rfl,rfl⟩
theorem rN {c d:Cat} {b:Bool} {M:Nat} (sc:IsCat c) (sd:IsCat d) (bc:CatB c) (bd:CatB d) (hM:M≤4096):Spec Tryz.prog 163 [.bptr [] (aU c), .bptr [] (aU d), .v (.bool b),iv M] [] (.tup [.sl 0,bv (eat (stL M) [] (dU c d b c.ob.toNat [])).1]) [(0,⟨1, .arr (aS (eat (stL M) [] (dU c d b c.ob.toNat [])).2)⟩)]:=by
 refine aD (E:=TE) 0 Tryz.func163 rfl (by simp [Tryz.f163]) fun X hn hX=>?_
 have o0:=sc.toShape.ob0
 have hfor:=aEC (d:=d) (b:=b) (F:=[]) (M:=M) sc.toShape
 have hrun:=pW (b:=b) (M:=M) sc sd bc bd hM c.ob.toNat 0 (List.replicate c.ob.toNat 0) (List.replicate c.fr.length 0) [] (by rw [List.length_replicate];omega) (by rw [List.length_replicate];omega) (fun i hi=>by simp at hi) (fun _ i j _ hj=>by simp at hj) (by rw [List.length_replicate]) (Nat.zero_le _)
 rw [List.take_zero]at hrun
 repeat'(first|(refine bU 2 (Imp.closeB 4 3 0 _ _ rfl rfl rfl (by decide)) ?_;simp only [go_sem,simprocAttr])|(refine bU 4 (Imp.openB 4 0 _ _ rfl (Nat.succ_le_succ (Nat.zero_le _)) rfl rfl) ?_;simp only [go_sem,simprocAttr])|(with_reducible first|refine St.f ?_|refine V_c ?_|refine And.intro ?_ ?_|refine aH ?_ ?_)|((refine aN ?_);intro K hK)|((with_reducible refine So.f ?_);intro K hK;simp(contextual:=true)only [go_sem,simprocAttr])|((with_reducible refine hK _ ?_);clear hK K)|((with_reducible refine aC 251 ?_);refine EvCall.mr (hfor) aCp [(3,4),(4,0),(5,1),(6,2),(0,5),(1,6),(2,7)] [] ?_)|((with_reducible refine aC 253 ?_);refine EvCall.mr (hrun) lB [(0,5),(1,6),(2,7),(3,4),(4,0),(5,1),(6,2)] [] ?_)|(refine fun(hc:(_:Bool)=_)=>?_;try simp only [hcS]at hc))
 all_goals try exact om_
 ·(first|refine aB ?_|refine aA ?_);simp only [go_sem,simprocAttr,Tryz.f163]
end Go.Eng
end
section
namespace Go.Eng
open Go Go.Proofs Go.Cats
attribute [local go_sem] List.set_cons_zero List.set_cons_succ
theorem aHO (c:Cat) {V:List Nat} {rs:Nat→Rs}:eC V rs [iv c.ob, .bor [] (ints c.fr), .bor [] (ints c.to), .bor [] (ints c.id), .bor [] (aF c.co)] (aU c):=
 ⟨_,_,rfl, .inl rfl,_,_,rfl,⟨rfl,cJ _,fun p hp=>by cases hp⟩,_,_,rfl,⟨rfl,cJ _,fun p hp=>by cases hp⟩,_,_,rfl,⟨rfl,cJ _,fun p hp=>by cases hp⟩,_,_,rfl,⟨rfl,cJ _,fun p hp=>by cases hp⟩,rfl⟩
theorem Imp.lendCat {X:Cx} {σ:Ss} (k i cv:Nat) (c:Cat) (hk:lk σ.tm k= .ptr i 0) (hi:rsL σ.rs i=⟨cv, .box [iv c.ob, .bor [] (ints c.fr), .bor [] (ints c.to), .bor [] (ints c.id), .bor [] (aF c.co)]⟩) (hcv:1≤cv):Imp X σ ⟨(k, .bptr [(i,cv)] (aU c))::σ.tm,σ.rs,σ.nx⟩:=by
 have h:=Imp.lendPtr (X:=X) (σ:=σ) k i 0 (aU c) [i] hk ⟨List.mem_singleton.2 rfl, .inl ⟨_,by rw [hi],aHO c⟩⟩ (fun j hj=>by rw [List.mem_singleton.1 hj,hi];exact hcv)
 rw [List.map_cons,List.map_nil,hi]at h
 exact h
structure _root_.Go.Cats.IYes (c d:Cat) (g:Fun):Prop where
 src:IsCat c
 tgt:IsCat d
 small:c.fr.length≤16∧d.fr.length≤16
 ob:c.ob=d.ob
 ar:c.fr.length=d.fr.length
 fst:∃D,dU c d true c.ob.toNat []=g::D
end Go.Eng
end
