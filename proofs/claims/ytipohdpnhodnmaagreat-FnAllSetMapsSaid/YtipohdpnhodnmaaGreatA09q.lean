/- The search of natural maps by the program: in depth, each map handed on until it is enough (setIso_1). -/
import Derived.Test.YtipohdpnhodnmaaGreatA03q
set_option linter.unusedSimpArgs false
set_option linter.unusedVariables false
set_option maxRecDepth 100000
set_option maxHeartbeats 16000000
namespace Go.Eng
open Go Go.Proofs Go.Cats
theorem aFt {f g:SF} {n x e:Nat} {P:List (List Int)}:bQ f g true n x e P 0=[]:=rfl
theorem aHS {O:List (List Int)}:eat stA O []=(true,O):=rfl
theorem aLL {Q:List (List Int)}:jK Q []=Q:=rfl
theorem aAl (l:List (Int×Int)) (i:Nat) (h:i<l.length):(prs l).part (i*2) 2=[.v (.int .i64 (l.getD i (0,0)).1), .v (.int .i64 (l.getD i (0,0)).2)]:=by
 unfold prs Dt.part
 simp only [Dt.cells]
 induction l generalizing i with
 |nil=>simp at h
 |cons p l ih=>
  cases i with
  |zero=>rfl
  |succ i=>
   have:=ih i (by simpa using h)
   rw [show(i+1)*2=i*2+2 by omega]
   simpa using this
attribute [local go_sem] aFt aHS aLL
theorem jN {l:List Int} {n k:Int} (hl:l.length≤1048576) (hk:idxOf l n=k):Spec Tryz.prog 140 [.bor [] (ints l),iv n] [] (iv k) []:=by
 subst hk
 exact pT hl
theorem oQ {f g:SF} {O:List (List Int)} {P Q:List (List Int)} {N:List (Int×Int)} {x e u:Nat} {ok:Bool} (h:SPair f g) (hP:P.length=f.sizes.length) (hR:∀y,y<P.length→((P.getD y []).length:Int)=f.sizes.getD y 0) (he:(e:Int)<f.sizes.getD x 0) (hu:(u:Int)<g.sizes.getD x 0) (hA:pM f g true x e u P []=(ok,Q,N)):
  Spec Tryz.prog 236 [.ptr 0 0,iv x,iv e,iv u, .ptr 2 0] [(0,⟨1, .box [.bptr [] (sfD f), .bptr [] (sfD g), .v (.bool true), .sl 1, .fn 107 [.ptr 4 0]]⟩),(1,⟨1, .arr (aD P)⟩),(2,⟨1, .bx [.dead] 0 (prs [])⟩),(4,⟨1, .bx [.dead] 0 (aD O)⟩)] (bv ok) [(0,⟨1, .box [.bptr [] (sfD f), .bptr [] (sfD g), .v (.bool true), .sl 1, .fn 107 [.ptr 4 0]]⟩),(1,⟨1, .arr (aD Q)⟩),(2,⟨1, .bx [.dead] 0 (prs N)⟩),(4,⟨1, .bx [.dead] 0 (aD O)⟩)]:=by
 have h1:=sQ (O:=O) (N:=[]) h hP hR (by simp) he hu
 rw [hA]at h1
 exact h1
theorem kZ {f g:SF} (h:SPair f g):∀(n:Nat) (O:List (List Int)) (P:List (List Int)),Cats.Good f g true P→nu P<n→Spec Tryz.prog 184 [.ptr 0 0] [(0,⟨1, .box [.bptr [] (sfD f), .bptr [] (sfD g), .v (.bool true), .sl 1, .fn 107 [.ptr 4 0]]⟩),(1,⟨1, .arr (aD P)⟩),(4,⟨1, .bx [.dead] 0 (aD O)⟩)] (bv (eat stA O (dfs f g true n P)).1) [(0,⟨1, .box [.bptr [] (sfD f), .bptr [] (sfD g), .v (.bool true), .sl 1, .fn 107 [.ptr 4 0]]⟩),(1,⟨1, .arr (aD P)⟩),(4,⟨1, .bx [.dead] 0 (aD ((eat stA O (dfs f g true n P)).2))⟩)]
 |0,_,_,_,hk=>by omega
 |n+1,O,P,hG,hk=>by
  have IH:=kZ h n
  have hP:=hG.len
  have hR:=hG.row
  have t1:=h.src.szl
  have t2:=h.src.cat.ob8
  have t3:=h.tgt.szl
  have hone:f.shape.ob=g.shape.ob:=by rw [h.one]
  have hrow:∀y,y<P.length→(P.getD y []).length≤16:=fun y hy=>by
   have h1:=hR y hy
   have h2:=h.src.szw y (by omega)
   omega
  refine aE (E:=TE) 5 Tryz.func184 rfl (by simp [Tryz.f184]) fun X hn hX=>?_
  repeat'(first|(with_reducible first|refine St.f ?_|refine V_c ?_|refine eDn ?_|refine And.intro ?_ ?_|refine aI ?_ ?_|refine aL ?_)|((refine aQ ?_);intro K hK)|((with_reducible refine So.f ?_);intro K hK;simp(contextual:=true)only [go_sem,simprocAttr])|((with_reducible refine hK _ ?_);clear hK K)|(refine fun(hc:(_:Bool)=_)=>?_;try simp only [hcS]at hc))
  all_goals try exact om_
  refine aH (G:={i:Nat//i≤P.length∧(aV i (fuR P)=none)}) (fun⟨i,_⟩=>[(16,iv i)]) [0,15] (fun⟨i,_⟩=>[]) [] (fun zz=>P.length-zz.1) ⟨0,Nat.zero_le _,by rfl⟩ ?_ ?_
  ·exact Imp.au hX
  rintro⟨i,hii,hwi⟩
  simp only [go_sem,simprocAttr]
  rcases Nat.lt_or_ge i P.length with hlt|hge
  ·have r1:=hrow i hlt
   cases hr:fuR P i with
   |none=>
    have hk1:idxOf (P.getD i []) (-1)= -1:=by rw [yR hG hlt,hr];rfl
    repeat'(first|(with_reducible first|refine St.f ?_|refine V_c ?_|refine eDn ?_|refine And.intro ?_ ?_|refine aI ?_ ?_|refine aL ?_)|((refine aQ ?_);intro K hK)|((with_reducible refine So.f ?_);intro K hK;simp(contextual:=true)only [go_sem,simprocAttr])|((with_reducible refine hK _ ?_);clear hK K)|((with_reducible refine aC 140 ?_);refine EvCall.rq (a:=(jN (k:=-1) (by first|omega|assumption|rfl) (by first|omega|assumption|rfl))) (b:=fZ) (c:=?_);all_goals try simp only [go_sem,simprocAttr])|(refine fun(hc:(_:Bool)=_)=>?_;try simp only [hcS]at hc))
    all_goals try exact om_
    ·refine⟨⟨i+1,by omega,(by exact aW hwi hr)⟩,by simp only;omega,Imp.ao hX⟩
   |some q=>
    obtain⟨hf,he⟩:=aHl hlt hwi hr
    have hk1:idxOf (P.getD i []) (-1)=(q.2:Int):=by rw [yR hG hlt,hr];rfl
    have w1:=h.tgt.szw i (by omega)
    obtain⟨K,hK⟩:∃K:Nat,g.sizes.getD i 0=K:=⟨(g.sizes.getD i 0).toNat,by omega⟩
    have hdf:dfs f g true (n+1) P=bQ f g true n i q.2 P K:=by rw [pF hf,hK];rfl
    rw [hdf]
    repeat'(first|(with_reducible first|refine St.f ?_|refine V_c ?_|refine eDn ?_|refine And.intro ?_ ?_|refine aI ?_ ?_|refine aL ?_)|((refine aQ ?_);intro K hK)|((with_reducible refine So.f ?_);intro K hK;simp(contextual:=true)only [go_sem,simprocAttr])|((with_reducible refine hK _ ?_);clear hK K)|((with_reducible refine aC 140 ?_);refine EvCall.rq (a:=(jN (k:=(q.2:Int)) (by first|omega|assumption|rfl) (by first|omega|assumption|rfl))) (b:=fZ) (c:=?_);all_goals try simp only [go_sem,simprocAttr])|(refine fun(hc:(_:Bool)=_)=>?_;try simp only [hcS]at hc))
    all_goals try exact om_
    ·refine aH (G:={u:Nat//u≤K∧((eat stA O (bQ f g true n i q.2 P u)).1=true)}) (fun⟨u,_⟩=>[(5,iv u)]) [0,3,4,15,16] (fun⟨u,_⟩=>[(4,⟨1, .bx [.dead] 0 (aD ((eat stA O (bQ f g true n i q.2 P u)).2))⟩)]) [4] (fun zz=>K-zz.1) ⟨0,Nat.zero_le _,by rfl⟩ ?_ ?_
     ·exact Imp.au hX
     rintro⟨u,hiu,hwu⟩
     simp only [go_sem,simprocAttr]
     rcases Nat.lt_or_ge u K with hlt2|hge2
     ·obtain⟨ok,Q,N,hA⟩:∃ok Q N,pM f g true i q.2 u P []=(ok,Q,N):=⟨_,_,_,rfl⟩
      have hF:=aAq h hG hlt he (by omega) hA
      have hset:=oQ (O:=(eat stA O (bQ f g true n i q.2 P u)).2) h hP hR (by have:=hR i hlt;omega) (by omega) hA
      have nl:=hF.nl
      have ql:=hF.len
      cases ok with
      |false=>
       have hs:=hF.no rfl
       have hbel:bQ f g true n i q.2 P (u+1)=bQ f g true n i q.2 P u:=by rw [gJ,kG hs,List.append_nil]
       repeat'(first|(refine bH 10 (Imp.closeB 6 5 0 _ _ rfl rfl rfl (by decide)) ?_;simp only [List.set_cons_zero])|(refine bH 12 (Imp.openB 6 0 _ _ rfl (Nat.succ_le_succ (Nat.zero_le _)) rfl rfl) ?_;simp only [List.set_cons_zero])|(with_reducible first|refine St.f ?_|refine V_c ?_|refine eDn ?_|refine And.intro ?_ ?_|refine aI ?_ ?_|refine aL ?_)|((refine aQ ?_);intro K hK)|((with_reducible refine So.f ?_);intro K hK;simp(contextual:=true)only [go_sem,simprocAttr])|((with_reducible refine hK _ ?_);clear hK K)|((with_reducible refine aC 236 ?_);refine EvCall.mr (hset) fC [(0,0),(1,1),(2,6),(4,4)] [] ?_)|(refine fun(hc:(_:Bool)=_)=>?_;try simp only [hcS]at hc))
       all_goals try exact om_
       ·refine aH (G:={j:Nat//j≤N.length∧(True)}) (fun⟨j,_⟩=>[(57,iv j),(6, .ptr 6 0)]) [0,2,3,4,5,8,15,16,52,53,55,56] (fun⟨j,_⟩=>[(1,⟨1, .arr (aD (jK Q (N.take j)))⟩)]) [1] (fun zz=>N.length-zz.1) ⟨0,Nat.zero_le _,by first|trivial|simp⟩ ?_ ?_
        ·exact Imp.au hX
        rintro⟨j,hij,hwj⟩
        simp only [go_sem,simprocAttr]
        have d1:=nB (N.take j) Q
        rcases Nat.lt_or_ge j N.length with hlt3|hge3
        ·have a1:=hF.at1 j hlt3
         have a2:=hF.row (N.getD j (0,0)).1.toNat
         have a3:=d1.2 (N.getD j (0,0)).1.toNat
         have a4:=hrow (N.getD j (0,0)).1.toNat a1.2.1
         have e3:=qV (Q:=Q) (N:=N) hlt3
         have p1:=aAl N j hlt3
         repeat'(first|(rw [p1])|(refine bH 15 (Imp.open_ 1 (N.getD j (0,0)).1.toNat _ [] (.inr ⟨rfl,rfl⟩) (by simp [go_sem,simprocAttr]) (by simp only [go_sem,simprocAttr];omega) rfl (by simp only [go_sem,simprocAttr]) rfl) ?_;simp only [go_sem,simprocAttr])|refine bH 16 (Imp.closeA 1 9 (N.getD j (0,0)).1.toNat _ _ rfl rfl (by decide) (by simp only [go_sem,simprocAttr];omega)) ?_|(with_reducible first|refine St.f ?_|refine V_c ?_|refine eDn ?_|refine And.intro ?_ ?_|refine aI ?_ ?_|refine aL ?_)|((refine aQ ?_);intro K hK)|((with_reducible refine So.f ?_);intro K hK;simp(contextual:=true)only [go_sem,simprocAttr])|((with_reducible refine hK _ ?_);clear hK K)|(refine fun(hc:(_:Bool)=_)=>?_;try simp only [hcS]at hc))
         all_goals try exact om_
         ·refine⟨⟨j+1,by omega,(by trivial)⟩,by simp only;omega,Imp.auto hX (by simp only [go_sem,simprocAttr,e3])⟩
        ·have hb:jK Q (N.take j)=P:=by rw [List.take_of_length_le hge3];exact hF.back
         repeat'(first|(with_reducible first|refine St.f ?_|refine V_c ?_|refine eDn ?_|refine And.intro ?_ ?_|refine aI ?_ ?_|refine aL ?_)|((refine aQ ?_);intro K hK)|((with_reducible refine So.f ?_);intro K hK;simp(contextual:=true)only [go_sem,simprocAttr])|((with_reducible refine hK _ ?_);clear hK K)|(refine fun(hc:(_:Bool)=_)=>?_;try simp only [hcS]at hc))
         all_goals try exact om_
         ·refine⟨⟨u+1,by omega,(by exact(by rw [hbel];exact hwu))⟩,by simp only;omega,Imp.auto hX (by simp only [go_sem,simprocAttr,hbel,hb])⟩
      |true=>
       have hs:=hF.yes rfl
       obtain⟨g1,g2,g3⟩:=aDG h hG hf hk (by omega) hs
       have hrun:=IH (eat stA O (bQ f g true n i q.2 P u)).2 Q g1 g2
       have hbel:eat stA O (bQ f g true n i q.2 P (u+1))=eat stA (eat stA O (bQ f g true n i q.2 P u)).2 (dfs f g true n Q):=by rw [gJ,g3,aFB hwu]
       repeat'(first|(refine bH 10 (Imp.closeB 6 5 0 _ _ rfl rfl rfl (by decide)) ?_;simp only [List.set_cons_zero])|(refine bH 12 (Imp.openB 6 0 _ _ rfl (Nat.succ_le_succ (Nat.zero_le _)) rfl rfl) ?_;simp only [List.set_cons_zero])|(with_reducible first|refine St.f ?_|refine V_c ?_|refine eDn ?_|refine And.intro ?_ ?_|refine aI ?_ ?_|refine aL ?_)|((refine aQ ?_);intro K hK)|((with_reducible refine So.f ?_);intro K hK;simp(contextual:=true)only [go_sem,simprocAttr])|((with_reducible refine hK _ ?_);clear hK K)|((with_reducible refine aC 236 ?_);refine EvCall.mr (hset) fC [(0,0),(1,1),(2,6),(4,4)] [] ?_)|((with_reducible refine aC 184 ?_);refine EvCall.mr (hrun) fB [(0,0),(1,1),(4,4)] [] ?_)|(refine fun(hc:(_:Bool)=_)=>?_;try simp only [hcS]at hc))
       all_goals try exact om_
       ·refine aH (G:={j:Nat//j≤N.length∧(True)}) (fun⟨j,_⟩=>[(57,iv j),(6, .ptr 6 0)]) [0,2,3,4,5,8,15,16,52,53,55,56] (fun⟨j,_⟩=>[(1,⟨1, .arr (aD (jK Q (N.take j)))⟩)]) [1] (fun zz=>N.length-zz.1) ⟨0,Nat.zero_le _,by first|trivial|simp⟩ ?_ ?_
        ·exact Imp.au hX
        rintro⟨j,hij,hwj⟩
        simp only [go_sem,simprocAttr]
        have d1:=nB (N.take j) Q
        rcases Nat.lt_or_ge j N.length with hlt3|hge3
        ·have a1:=hF.at1 j hlt3
         have a2:=hF.row (N.getD j (0,0)).1.toNat
         have a3:=d1.2 (N.getD j (0,0)).1.toNat
         have a4:=hrow (N.getD j (0,0)).1.toNat a1.2.1
         have e3:=qV (Q:=Q) (N:=N) hlt3
         have p1:=aAl N j hlt3
         repeat'(first|(rw [p1])|(refine bH 15 (Imp.open_ 1 (N.getD j (0,0)).1.toNat _ [] (.inr ⟨rfl,rfl⟩) (by simp [go_sem,simprocAttr]) (by simp only [go_sem,simprocAttr];omega) rfl (by simp only [go_sem,simprocAttr]) rfl) ?_;simp only [go_sem,simprocAttr])|refine bH 16 (Imp.closeA 1 9 (N.getD j (0,0)).1.toNat _ _ rfl rfl (by decide) (by simp only [go_sem,simprocAttr];omega)) ?_|(with_reducible first|refine St.f ?_|refine V_c ?_|refine eDn ?_|refine And.intro ?_ ?_|refine aI ?_ ?_|refine aL ?_)|((refine aQ ?_);intro K hK)|((with_reducible refine So.f ?_);intro K hK;simp(contextual:=true)only [go_sem,simprocAttr])|((with_reducible refine hK _ ?_);clear hK K)|(refine fun(hc:(_:Bool)=_)=>?_;try simp only [hcS]at hc))
         all_goals try exact om_
         ·refine⟨⟨j+1,by omega,(by trivial)⟩,by simp only;omega,Imp.auto hX (by simp only [go_sem,simprocAttr,e3])⟩
        ·have hb:jK Q (N.take j)=P:=by rw [List.take_of_length_le hge3];exact hF.back
         repeat'(first|(with_reducible first|refine St.f ?_|refine V_c ?_|refine eDn ?_|refine And.intro ?_ ?_|refine aI ?_ ?_|refine aL ?_)|((refine aQ ?_);intro K hK)|((with_reducible refine So.f ?_);intro K hK;simp(contextual:=true)only [go_sem,simprocAttr])|((with_reducible refine hK _ ?_);clear hK K)|(refine fun(hc:(_:Bool)=_)=>?_;try simp only [hcS]at hc))
         all_goals try exact om_
         ·obtain⟨R,hR2⟩:=sX (f:=f) (g:=g) (once:=true) (n:=n) (x:=i) (e:=q.2) (P:=P) hlt2
          have e9:eat stA O (bQ f g true n i q.2 P K)=eat stA (eat stA O (bQ f g true n i q.2 P u)).2 (dfs f g true n Q):=by
           rw [hR2,zK (by rw [hbel];exact hc),hbel]
          rw [e9,hb,hc]
          (first|refine aB ?_|refine aA ?_);simp only [go_sem,simprocAttr,Tryz.f184]
         ·refine⟨⟨u+1,by omega,(by exact(by rw [hbel];exact hc))⟩,by simp only;omega,Imp.auto hX (by simp only [go_sem,simprocAttr,hbel,hb])⟩
     ·repeat'(first|(with_reducible first|refine St.f ?_|refine V_c ?_|refine eDn ?_|refine And.intro ?_ ?_|refine aI ?_ ?_|refine aL ?_)|((refine aQ ?_);intro K hK)|((with_reducible refine So.f ?_);intro K hK;simp(contextual:=true)only [go_sem,simprocAttr])|((with_reducible refine hK _ ?_);clear hK K)|(refine fun(hc:(_:Bool)=_)=>?_;try simp only [hcS]at hc))
      all_goals try exact om_
      ·have e:u=K:=by omega
       subst e
       rw [hwu]
       (first|refine aB ?_|refine aA ?_);simp only [go_sem,simprocAttr,Tryz.f184]
  ·have hf:fuP P=none:=bJ hwi hii hge
   rw [pD hf,aGQ]
   have hcl:=aE2 (O:=O) (q:=P) (by omega) (fun y hy=>by have:=hrow y hy;omega)
   repeat'(first|(with_reducible first|refine St.f ?_|refine V_c ?_|refine eDn ?_|refine And.intro ?_ ?_|refine aI ?_ ?_|refine aL ?_)|((refine aQ ?_);intro K hK)|((with_reducible refine So.f ?_);intro K hK;simp(contextual:=true)only [go_sem,simprocAttr])|((with_reducible refine hK _ ?_);clear hK K)|((with_reducible refine aC 107 ?_);refine EvCall.mr (hcl) aCI [(0,4)] [1] ?_)|(refine fun(hc:(_:Bool)=_)=>?_;try simp only [hcS]at hc))
   all_goals try exact om_
   (first|refine aB ?_|refine aA ?_);simp only [go_sem,simprocAttr,Tryz.f184]
end Go.Eng
