/- Several texts in one: EngA, EngB, EngC, EngD, EngE, EngF, EngG, EngH. -/
import Derived.WalkKit
import Derived.CallsIn
import Derived.TacticsIn
section
namespace Go.Eng
open Go
def Agree (R:Nat→Prop) (w w':World):Prop:=∀b,R b→w'.heap[b]? =w.heap[b]?
theorem Agree.refl (R:Nat→Prop) (w:World):Agree R w w:=fun _ _=>rfl
theorem Agree.mono {R R':Nat→Prop} {w w':World} (h:Agree R w w') (k:∀b,R' b→R b):Agree R' w w':=fun b hb=>h b (k b hb)
theorem Agree.trans {R:Nat→Prop} {a b c:World} (h:Agree R a b) (k:Agree R b c):Agree R a c:=fun x hx=>(k x hx).trans (h x hx)
structure Ab where
 p:World→Value→(Nat→Prop)→Prop
 frame:∀{w w' v F},Agree F w w'→p w v F→p w' v F
inductive Dt where
 |v (x:Value)
 |sl (sz:Nat) (df:Dt) (cs:List Dt)
 |pt (cs:List Dt)
 |ab (p:Ab)
instance:Inhabited Dt:=⟨.v (.int .i64 0)⟩
mutual
def RdV (w:World) (R:Nat→Prop):Dt→Value→Prop
 | .v x,u=>u=x
 | .sl sz _ cs,u=>0<sz∧((u= .slice none 0 0∧cs=[])∨
   ∃g off sp n cap vs,u= .slice (some ⟨g,off,sp⟩) n cap∧n*sz=cs.length∧n≤cap∧cap≤maxLen∧(cs≠[]→sp=none∧R g)∧RdL w R cs vs∧
    ∀k x,vs[k]? =some x→w.cell? ⟨g,off+k,none⟩=some x)
 | .pt cs,u=>∃b o vs,u= .pointer (some ⟨b,o,none⟩)∧(cs≠[]→R b)∧RdL w R cs vs∧∀k x,vs[k]? =some x→w.cell? ⟨b,o+k,none⟩=some x
 | .ab p,u=>u.oneCell'=true∧∃F,(∀b,F b→R b)∧p.p w u F
def RdL (w:World) (R:Nat→Prop):List Dt→List Value→Prop
 |[],vs=>vs=[]
 |d::ds,vs=>∃x r,vs=x::r∧RdV w R d x∧RdL w R ds r
end
mutual
def OwV (w:World) (F:Nat→Prop):Dt→Value→Prop
 | .v x,u=>u=x
 | .sl sz _ cs,u=>0<sz∧((u= .slice none 0 0∧cs=[])∨
   ∃g n cap cur e,u= .slice (some ⟨g,0,none⟩) n cap∧n*sz=cs.length∧n≤cap∧cap≤maxLen∧F g∧
    w.heap[g]? =some (.cells cur e (0,0))∧cur.size=cap*sz∧OwL w (fun b=>F b∧b≠g) cs (cur.toList.take cs.length))
 | .pt _,_=>False
 | .ab p,u=>u.oneCell'=true∧∃F',(∀b,F' b→F b)∧p.p w u F'
def OwL (w:World) (F:Nat→Prop):List Dt→List Value→Prop
 |[],vs=>vs=[]
 |d::ds,vs=>∃x r F1 F2,vs=x::r∧(∀b,F1 b→F b)∧(∀b,F2 b→F b)∧(∀b,F1 b→F2 b→False)∧OwV w F1 d x∧OwL w F2 ds r
end
theorem qN {R:Nat→Prop} {w w':World} (h:Agree R w w') {g o:Nat} (hg:R g):w'.cell? ⟨g,o,none⟩=w.cell? ⟨g,o,none⟩:=by
 simp [World.cell?,h g hg]
mutual
theorem RdV.frame {R:Nat→Prop} {w w':World} (h:Agree R w w'):∀(d:Dt) (u:Value),RdV w R d u→RdV w' R d u
 | .v x,u=>by simp [RdV]
 | .sl sz df cs,u=>by
  simp only [RdV]
  rintro⟨h0,h1|⟨g,off,sp,n,cap,vs,e1,e2,e3,e4,e5,e6,e7⟩⟩
  ·exact⟨h0, .inl h1⟩
  ·refine⟨h0, .inr ⟨g,off,sp,n,cap,vs,e1,e2,e3,e4,e5,RdL.frame h cs vs e6,?_⟩⟩
   intro k x hk
   by_cases hc:cs=[]
   ·subst hc;simp [RdL]at e6;subst e6;simp at hk
   ·rw [qN h (e5 hc).2];exact e7 k x hk
 | .pt cs,u=>by
  simp only [RdV]
  rintro⟨b,o,vs,e1,e2,e3,e4⟩
  refine⟨b,o,vs,e1,e2,RdL.frame h cs vs e3,fun k x hk=>?_⟩
  by_cases hc:cs=[]
  ·subst hc;simp [RdL]at e3;subst e3;simp at hk
  ·rw [qN h (e2 hc)];exact e4 k x hk
 | .ab p,u=>by
  simp only [RdV]
  rintro⟨e0,F,e1,e2⟩
  exact⟨e0,F,e1,p.frame (h.mono e1) e2⟩
theorem RdL.frame {R:Nat→Prop} {w w':World} (h:Agree R w w'):∀(ds:List Dt) (vs:List Value),RdL w R ds vs→RdL w' R ds vs
 |[],vs=>by simp [RdL]
 |d::ds,vs=>by
  simp only [RdL]
  rintro⟨x,r,e1,e2,e3⟩
  exact⟨x,r,e1,RdV.frame h d x e2,RdL.frame h ds r e3⟩
end
mutual
theorem RdV.mono {R R':Nat→Prop} {w:World} (h:∀b,R b→R' b):∀(d:Dt) (u:Value),RdV w R d u→RdV w R' d u
 | .v x,u=>by simp [RdV]
 | .sl sz df cs,u=>by
  simp only [RdV]
  rintro⟨h0,h1|⟨g,off,sp,n,cap,vs,e1,e2,e3,e4,e5,e6,e7⟩⟩
  ·exact⟨h0, .inl h1⟩
  ·exact⟨h0, .inr ⟨g,off,sp,n,cap,vs,e1,e2,e3,e4,fun hc=>⟨(e5 hc).1,h _ (e5 hc).2⟩,RdL.mono h cs vs e6,e7⟩⟩
 | .pt cs,u=>by
  simp only [RdV]
  rintro⟨b,o,vs,e1,e2,e3,e4⟩
  exact⟨b,o,vs,e1,fun hc=>h _ (e2 hc),RdL.mono h cs vs e3,e4⟩
 | .ab p,u=>by
  simp only [RdV]
  rintro⟨e0,F,e1,e2⟩
  exact⟨e0,F,fun b hb=>h _ (e1 b hb),e2⟩
theorem RdL.mono {R R':Nat→Prop} {w:World} (h:∀b,R b→R' b):∀(ds:List Dt) (vs:List Value),RdL w R ds vs→RdL w R' ds vs
 |[],vs=>by simp [RdL]
 |d::ds,vs=>by
  simp only [RdL]
  rintro⟨x,r,e1,e2,e3⟩
  exact⟨x,r,e1,RdV.mono h d x e2,RdL.mono h ds r e3⟩
end
mutual
theorem OwV.frame {F:Nat→Prop} {w w':World} (h:Agree F w w'):∀(d:Dt) (u:Value),OwV w F d u→OwV w' F d u
 | .v x,u=>by simp [OwV]
 | .sl sz df cs,u=>by
  simp only [OwV]
  rintro⟨h0,h1|⟨g,n,cap,cur,e,e1,e2,e3,e4,e5,e6,e7,e8⟩⟩
  ·exact⟨h0, .inl h1⟩
  ·exact⟨h0, .inr ⟨g,n,cap,cur,e,e1,e2,e3,e4,e5,(h g e5).trans e6,e7,OwL.frame (h.mono fun b hb=>hb.1) cs _ e8⟩⟩
 | .pt cs,u=>by simp [OwV]
 | .ab p,u=>by
  simp only [OwV]
  rintro⟨e0,F',e1,e2⟩
  exact⟨e0,F',e1,p.frame (h.mono e1) e2⟩
theorem OwL.frame {F:Nat→Prop} {w w':World} (h:Agree F w w'):∀(ds:List Dt) (vs:List Value),OwL w F ds vs→OwL w' F ds vs
 |[],vs=>by simp [OwL]
 |d::ds,vs=>by
  simp only [OwL]
  rintro⟨x,r,F1,F2,e1,f1,f2,f3,e2,e3⟩
  exact⟨x,r,F1,F2,e1,f1,f2,f3,OwV.frame (h.mono f1) d x e2,OwL.frame (h.mono f2) ds r e3⟩
end
mutual
theorem OwV.mono {F F':Nat→Prop} {w:World} (h:∀b,F b→F' b):∀(d:Dt) (u:Value),OwV w F d u→OwV w F' d u
 | .v x,u=>by simp [OwV]
 | .sl sz df cs,u=>by
  simp only [OwV]
  rintro⟨h0,h1|⟨g,n,cap,cur,e,e1,e2,e3,e4,e5,e6,e7,e8⟩⟩
  ·exact⟨h0, .inl h1⟩
  ·exact⟨h0, .inr ⟨g,n,cap,cur,e,e1,e2,e3,e4,h _ e5,e6,e7,OwL.mono (fun b hb=>⟨h _ hb.1,hb.2⟩) cs _ e8⟩⟩
 | .pt cs,u=>by simp [OwV]
 | .ab p,u=>by
  simp only [OwV]
  rintro⟨e0,F',e1,e2⟩
  exact⟨e0,F',fun b hb=>h _ (e1 b hb),e2⟩
theorem OwL.mono {F F':Nat→Prop} {w:World} (h:∀b,F b→F' b):∀(ds:List Dt) (vs:List Value),OwL w F ds vs→OwL w F' ds vs
 |[],vs=>by simp [OwL]
 |d::ds,vs=>by
  simp only [OwL]
  rintro⟨x,r,F1,F2,e1,f1,f2,f3,e2,e3⟩
  exact⟨x,r,F1,F2,e1,fun b hb=>h _ (f1 b hb),fun b hb=>h _ (f2 b hb),f3,e2,e3⟩
end
mutual
theorem OwV.rd {F:Nat→Prop} {w:World}:∀(d:Dt) (u:Value),OwV w F d u→RdV w F d u
 | .v x,u=>by simp [OwV,RdV]
 | .sl sz df cs,u=>by
  simp only [OwV,RdV]
  rintro⟨h0,h1|⟨g,n,cap,cur,e,e1,e2,e3,e4,e5,e6,e7,e8⟩⟩
  ·exact⟨h0, .inl h1⟩
  ·refine⟨h0, .inr ⟨g,0,none,n,cap,cur.toList.take cs.length,e1,e2,e3,e4,fun _=>⟨rfl,e5⟩,RdL.mono (fun b hb=>hb.1) _ _ (OwL.rd cs _ e8),?_⟩⟩
   intro k x hk
   rw [List.getElem?_take]at hk
   split at hk
   ·simp [World.cell?,e6];simpa using hk
   ·cases hk
 | .pt cs,u=>by simp [OwV]
 | .ab p,u=>by
  simp only [OwV,RdV]
  exact fun h=>h
theorem OwL.rd {F:Nat→Prop} {w:World}:∀(ds:List Dt) (vs:List Value),OwL w F ds vs→RdL w F ds vs
 |[],vs=>by simp [OwL,RdL]
 |d::ds,vs=>by
  simp only [OwL,RdL]
  rintro⟨x,r,F1,F2,e1,f1,f2,f3,e2,e3⟩
  exact⟨x,r,e1,RdV.mono f1 _ _ (OwV.rd d x e2),RdL.mono f2 _ _ (OwL.rd ds r e3)⟩
end
theorem RdL.length {w:World} {R:Nat→Prop}:∀{ds:List Dt} {vs:List Value},RdL w R ds vs→vs.length=ds.length
 |[],vs,h=>by simp [RdL]at h;simp [h]
 |d::ds,vs,h=>by
  simp only [RdL]at h
  obtain⟨x,r,rfl,_,h3⟩:=h
  simp [RdL.length h3]
theorem OwL.length {w:World} {F:Nat→Prop}:∀{ds:List Dt} {vs:List Value},OwL w F ds vs→vs.length=ds.length
 |[],vs,h=>by simp [OwL]at h;simp [h]
 |d::ds,vs,h=>by
  simp only [OwL]at h
  obtain⟨x,r,F1,F2,rfl,_,_,_,_,h3⟩:=h
  simp [OwL.length h3]
theorem RdL.get {w:World} {R:Nat→Prop}:∀{ds:List Dt} {vs:List Value} {k:Nat} {d:Dt},RdL w R ds vs→ds[k]? =some d→∃x,vs[k]? =some x∧RdV w R d x
 |[],_,_,_,_,h=>by simp at h
 |d::ds,vs,k,d',h,hk=>by
  simp only [RdL]at h
  obtain⟨x,r,rfl,h2,h3⟩:=h
  cases k with
  |zero=>simp at hk;subst hk;exact⟨x,by simp,h2⟩
  |succ k=>simp at hk⊢;exact RdL.get h3 hk
theorem RdL.slice {w:World} {R:Nat→Prop}:∀(ds:List Dt) (vs:List Value) (i n:Nat),RdL w R ds vs→RdL w R ((ds.drop i).take n) ((vs.drop i).take n)
 |[],vs,i,n,h=>by simp [RdL]at h;subst h;simp [RdL]
 |d::ds,vs,i,n,h=>by
  simp only [RdL]at h
  obtain⟨x,r,rfl,h2,h3⟩:=h
  cases i with
  |succ i=>simpa using RdL.slice ds r i n h3
  |zero=>
   cases n with
   |zero=>simp [RdL]
   |succ n=>simp only [List.drop_zero,List.take_succ_cons,RdL];exact⟨x,_,rfl,h2,by simpa using RdL.slice ds r 0 n h3⟩
theorem RdL.append {w:World} {R:Nat→Prop}:∀{ds es:List Dt} {xs ys:List Value},RdL w R ds xs→RdL w R es ys→RdL w R (ds++es) (xs++ys)
 |[],es,xs,ys,h,k=>by simp [RdL]at h;subst h;simpa using k
 |d::ds,es,xs,ys,h,k=>by
  simp only [RdL]at h
  obtain⟨x,r,rfl,h2,h3⟩:=h
  simp only [List.cons_append,RdL]
  exact⟨x,_,rfl,h2,RdL.append h3 k⟩
theorem OwL.append {w:World} {F G H:Nat→Prop}:∀{ds es:List Dt} {xs ys:List Value},OwL w F ds xs→OwL w G es ys→(∀b,F b→H b)→(∀b,G b→H b)→(∀b,F b→G b→False)→OwL w H (ds++es) (xs++ys)
 |[],es,xs,ys,h,k,_,h2,_=>by simp [OwL]at h;subst h;simpa using OwL.mono h2 _ _ k
 |d::ds,es,xs,ys,h,k,hF,hG,hd=>by
  simp only [OwL]at h
  obtain⟨x,r,F1,F2,rfl,f1,f2,f3,e2,e3⟩:=h
  simp only [List.cons_append,OwL]
  refine⟨x,_,F1,fun b=>F2 b∨G b,rfl,fun b hb=>hF _ (f1 b hb),fun b hb=>hb.elim (fun hb=>hF _ (f2 b hb)) (hG b),fun b h1 h2=>h2.elim (f3 b h1) (hd b (f1 b h1)),e2,?_⟩
  exact OwL.append e3 k (fun b hb=> .inl hb) (fun b hb=> .inr hb) (fun b h1 h2=>hd b (f2 b h1) h2)
theorem OwL.get {w:World} {F:Nat→Prop}:∀{ds:List Dt} {vs:List Value} {k:Nat} {d:Dt},OwL w F ds vs→ds[k]? =some d→∃x,vs[k]? =some x∧OwV w F d x
 |[],_,_,_,_,h=>by simp at h
 |d::ds,vs,k,d',h,hk=>by
  simp only [OwL]at h
  obtain⟨x,r,F1,F2,rfl,f1,f2,f3,h2,h3⟩:=h
  cases k with
  |zero=>simp at hk;subst hk;exact⟨x,by simp,OwV.mono f1 _ _ h2⟩
  |succ k=>
   simp at hk⊢
   obtain⟨x,e1,e2⟩:=OwL.get h3 hk
   exact⟨x,e1,OwV.mono f2 _ _ e2⟩
theorem OwL.set {w:World} {F G H:Nat→Prop}:∀{ds:List Dt} {vs:List Value} {k:Nat} {d:Dt} {x:Value},OwL w F ds vs→OwV w G d x→(∀b,F b→H b)→(∀b,G b→H b)→(∀b,F b→G b→False)→OwL w H (ds.set k d) (vs.set k x)
 |[],vs,k,d,x,h,_,_,_,_=>by simp [OwL]at h;subst h;simp [OwL]
 |d0::ds,vs,k,d,x,h,hd,hF,hG,hdis=>by
  simp only [OwL]at h
  obtain⟨y,r,F1,F2,rfl,f1,f2,f3,h2,h3⟩:=h
  cases k with
  |zero=>
   simp only [List.set_cons_zero,OwL]
   exact⟨x,r,G,F2,rfl,hG,fun b hb=>hF _ (f2 b hb),fun b h1 h4=>hdis b (f2 b h4) h1,hd,h3⟩
  |succ k=>
   simp only [List.set_cons_succ,OwL]
   refine⟨y,_,F1,fun b=>F2 b∨G b,rfl,fun b hb=>hF _ (f1 b hb),fun b hb=>hb.elim (fun hb=>hF _ (f2 b hb)) (hG b),fun b h1 h4=>h4.elim (f3 b h1) (hdis b (f1 b h1)),h2,?_⟩
   exact OwL.set h3 hd (fun b hb=> .inl hb) (fun b hb=> .inr hb) (fun b h1 h4=>hdis b (f2 b h1) h4)
def Dt.isV:Dt→Bool| .v _=>true|_=>false
def Dt.val:Dt→Value| .v x=>x|_=> .slice none 0 0
theorem RdL.flat {w:World} {R:Nat→Prop}:∀{ds:List Dt} {vs:List Value},ds.all Dt.isV=true→(RdL w R ds vs↔vs=ds.map Dt.val)
 |[],vs,_=>by simp [RdL]
 | .v x::ds,vs,h=>by
  simp only [List.all_cons,Bool.and_eq_true]at h
  simp only [RdL,RdV,List.map_cons,Dt.val]
  constructor
  ·rintro⟨_,r,rfl,rfl,h3⟩;rw [(RdL.flat h.2).1 h3]
  ·rintro rfl;exact⟨x,_,rfl,rfl,(RdL.flat h.2).2 rfl⟩
 | .sl .. ::ds,vs,h=>by simp [Dt.isV]at h
 | .pt .. ::ds,vs,h=>by simp [Dt.isV]at h
 | .ab .. ::ds,vs,h=>by simp [Dt.isV]at h
theorem OwL.flat {w:World} {F:Nat→Prop}:∀{ds:List Dt} {vs:List Value},ds.all Dt.isV=true→(OwL w F ds vs↔vs=ds.map Dt.val)
 |[],vs,_=>by simp [OwL]
 | .v x::ds,vs,h=>by
  simp only [List.all_cons,Bool.and_eq_true]at h
  simp only [OwL,OwV,List.map_cons,Dt.val]
  constructor
  ·rintro⟨_,r,F1,F2,rfl,_,_,_,rfl,h3⟩;rw [(OwL.flat h.2).1 h3]
  ·rintro rfl;exact⟨x,_,fun _=>False,fun _=>False,rfl,fun _ h=>h.elim,fun _ h=>h.elim,fun _ h _=>h,rfl,(OwL.flat h.2).2 rfl⟩
 | .sl .. ::ds,vs,h=>by simp [Dt.isV]at h
 | .pt .. ::ds,vs,h=>by simp [Dt.isV]at h
 | .ab .. ::ds,vs,h=>by simp [Dt.isV]at h
end Go.Eng
end
section
namespace Go.Eng
open Go
inductive Sv where
 |dead
 |v (x:Value)
 |bor (ts:List (Nat×Nat)) (d:Dt)
 |bptr (ts:List (Nat×Nat)) (ds:List Dt)
 |sl (i:Nat)
 |ptr (i:Nat) (o:Nat)
 |bsl (i:Nat) (n:Nat)
 |agg (l:List Sv)
 |tup (l:List Sv)
 |fn (f:FuncId) (l:List Sv)
instance:Inhabited Sv:=⟨.dead⟩
inductive Rk where
 |gone
 |box (cells:List Sv)
 |arr (d:Dt)
 |hol (d:Dt) (hs:List (Nat×Sv))
 |bx (cells:List Sv) (k:Nat) (d:Dt)
 |ab (p:Ab)
structure Rs where
 cv:Nat
 k:Rk
instance:Inhabited Rs:=⟨⟨0, .gone⟩⟩
def Rs.alive (r:Rs):Prop:=match r.k with| .gone=>False|_=>True
structure Cn where
 blk:Nat
 hdr:Value
 fp:Nat→Prop
def Reg (S:Nat→Prop) (c:Nat→Cn) (ts:List (Nat×Nat)):Nat→Prop:=fun b=>S b∨∃p∈ts,(c p.1).fp b
def vN (rs:Nat→Rs) (ts:List (Nat×Nat)):Prop:=∀p∈ts,1≤p.2∧p.2≤(rs p.1).cv
def gI (rs:Nat→Rs) (ts:List (Nat×Nat)):Prop:=∀p∈ts,(rs p.1).cv=p.2∧(rs p.1).alive
def PtrTo (w:World) (R:Nat→Prop) (ds:List Dt) (u:Value):Prop:=
 ∃b o vs,u= .pointer (some ⟨b,o,none⟩)∧(ds≠[]→R b)∧RdL w R ds vs∧∀k x,vs[k]? =some x→w.cell? ⟨b,o+k,none⟩=some x
mutual
def Sv.ok (w:World) (S:Nat→Prop) (c:Nat→Cn) (rs:Nat→Rs):Sv→Value→Prop
 | .dead,_=>True
 | .v x,u=>u=x
 | .bor ts d,u=>vN rs ts∧u.oneCell'=true∧(gI rs ts→RdV w (Reg S c ts) d u)
 | .bptr ts ds,u=>vN rs ts∧u.oneCell'=true∧(gI rs ts→PtrTo w (Reg S c ts) ds u)
 | .sl i,u=>1≤(rs i).cv∧u=(c i).hdr
 | .ptr i o,u=>1≤(rs i).cv∧u= .pointer (some ⟨(c i).blk,o,none⟩)
 | .bsl i n,u=>1≤(rs i).cv∧u= .slice (some ⟨(c i).blk,0,none⟩) n n
 | .agg l,u=>∃vs,u= .agg vs.toArray∧Sv.okL w S c rs l vs
 | .tup l,u=>∃vs,u= .tuple vs.toArray∧Sv.okL w S c rs l vs
 | .fn f l,u=>∃vs,u= .func (.func f) #[] vs.toArray∧Sv.okL w S c rs l vs
def Sv.okL (w:World) (S:Nat→Prop) (c:Nat→Cn) (rs:Nat→Rs):List Sv→List Value→Prop
 |[],vs=>vs=[]
 |s::l,vs=>∃x r,vs=x::r∧Sv.ok w S c rs s x∧Sv.okL w S c rs l r
end
def hlk:List (Nat×Sv)→Nat→Option Sv
 |[],_=>none
 |(k,s)::l,p=>if p=k then some s else hlk l p
def OwH (w:World) (S:Nat→Prop) (c:Nat→Cn) (rs:Nat→Rs) (hs:List (Nat×Sv)) (F:Nat→Prop):Nat→List Dt→List Value→Prop
 |_,[],vs=>vs=[]
 |p,d::ds,vs=>match hlk hs p with
  |some s=>∃x r,vs=x::r∧s.ok w S c rs x∧OwH w S c rs hs F (p+1) ds r
  |none=>∃x r F1 F2,vs=x::r∧(∀b,F1 b→F b)∧(∀b,F2 b→F b)∧(∀b,F1 b→F2 b→False)∧OwV w F1 d x∧OwH w S c rs hs F2 (p+1) ds r
def Rk.ok (w:World) (S:Nat→Prop) (c:Nat→Cn) (rs:Nat→Rs) (n:Cn):Rk→Prop
 | .gone=>∀b,¬n.fp b
 | .box cells=>n.fp n.blk∧∃cur e,w.heap[n.blk]? =some (.cells cur e (0,0))∧Sv.okL w S c rs cells cur.toList
 | .arr d=>OwV w n.fp d n.hdr∧∀a m k,n.hdr= .slice (some a) m k→a=⟨n.blk,0,none⟩
 | .hol d hs=>∃sz df cs m cap cur e,d= .sl sz df cs∧0<sz∧n.hdr= .slice (some ⟨n.blk,0,none⟩) m cap∧m*sz=cs.length∧m≤cap∧cap≤maxLen∧n.fp n.blk∧
   w.heap[n.blk]? =some (.cells cur e (0,0))∧cur.size=cap*sz∧OwH w S c rs hs (fun b=>n.fp b∧b≠n.blk) 0 cs (cur.toList.take cs.length)
 | .bx cells k d=>n.fp n.blk∧∃cur e F x,w.heap[n.blk]? =some (.cells cur e (0,0))∧Sv.okL w S c rs cells cur.toList∧(∀b,F b→n.fp b∧b≠n.blk)∧cur.toList[k]? =some x∧OwV w F d x
 | .ab p=>p.p w n.hdr n.fp
structure Hp (w0:World) (U S:Nat→Prop) (c:Nat→Cn) (rs:Nat→Rs) (w:World):Prop where
 os:w.os=w0.os
 tape:w.tape=w0.tape
 output:w.output=w0.output
 size:w0.heap.size≤w.heap.size
 unch:Agree U w0 w
 sub:∀b,S b→U b
 ult:∀b,U b→b<w0.heap.size
 res:∀i,(rs i).k.ok w S c rs (c i)
 flt:∀i b,(c i).fp b→b<w.heap.size
 fu:∀i b,(c i).fp b→¬U b
 dis:∀i j b,i≠j→(c i).fp b→(c j).fp b→False
 one:∀i,(c i).hdr.oneCell'=true
structure Ext (S:Nat→Prop) (w w':World) (c c':Nat→Cn) (rs rs':Nat→Rs):Prop where
 ver:∀i,(rs i).cv≤(rs' i).cv
 ag:Agree S w w'
 cn:∀i,1≤(rs i).cv→(c' i).blk=(c i).blk∧(c' i).hdr=(c i).hdr
 keep:∀i,1≤(rs i).cv→(rs' i).cv=(rs i).cv→(rs' i).alive→(rs i).alive∧(∀b,(c i).fp b→(c' i).fp b)∧Agree (c i).fp w w'
theorem Ext.refl (S:Nat→Prop) (w:World) (c:Nat→Cn) (rs:Nat→Rs):Ext S w w c c rs rs:=
 ⟨fun _=>Nat.le_refl _,Agree.refl _ _,fun _ _=>⟨rfl,rfl⟩,fun _ _ _ h=>⟨h,fun _ h=>h,Agree.refl _ _⟩⟩
theorem PtrTo.frame {w w':World} {R:Nat→Prop} (h:Agree R w w') {ds:List Dt} {u:Value} (k:PtrTo w R ds u):PtrTo w' R ds u:=by
 obtain⟨b,o,vs,e1,e2,e3,e4⟩:=k
 refine⟨b,o,vs,e1,e2,RdL.frame h _ _ e3,fun k x hk=>?_⟩
 by_cases hc:ds=[]
 ·subst hc;simp [RdL]at e3;subst e3;simp at hk
 ·rw [qN h (e2 hc)];exact e4 k x hk
theorem PtrTo.mono {w:World} {R R':Nat→Prop} (h:∀b,R b→R' b) {ds:List Dt} {u:Value} (k:PtrTo w R ds u):PtrTo w R' ds u:=by
 obtain⟨b,o,vs,e1,e2,e3,e4⟩:=k
 exact⟨b,o,vs,e1,fun hc=>h _ (e2 hc),RdL.mono h _ _ e3,e4⟩
section
variable {S:Nat→Prop} {w w':World} {c c':Nat→Cn} {rs rs':Nat→Rs}
theorem Ext.tagB (x:Ext S w w' c c' rs rs') {ts:List (Nat×Nat)} (h:vN rs ts):vN rs' ts:=
 fun p hp=>⟨(h p hp).1,Nat.le_trans (h p hp).2 (x.ver p.1)⟩
theorem Ext.tagV (x:Ext S w w' c c' rs rs') {ts:List (Nat×Nat)} (h:vN rs ts) (k:gI rs' ts):
  gI rs ts∧(∀b,Reg S c ts b→Reg S c' ts b)∧Agree (Reg S c ts) w w':=by
 have key:∀p∈ts,(rs' p.1).cv=(rs p.1).cv∧1≤(rs p.1).cv:=fun p hp=>by
  have h1:=h p hp
  have h2:=(k p hp).1
  have h3:=x.ver p.1
  omega
 refine⟨fun p hp=>?_,fun b hb=>?_,fun b hb=>?_⟩
 ·have:=key p hp
  exact⟨by rw [←this.1];exact(k p hp).1,(x.keep p.1 this.2 this.1 (k p hp).2).1⟩
 ·rcases hb with hb|⟨p,hp,hb⟩
  ·exact .inl hb
  ·have:=key p hp
   exact .inr ⟨p,hp,(x.keep p.1 this.2 this.1 (k p hp).2).2.1 b hb⟩
 ·rcases hb with hb|⟨p,hp,hb⟩
  ·exact x.ag b hb
  ·have:=key p hp
   exact(x.keep p.1 this.2 this.1 (k p hp).2).2.2 b hb
mutual
theorem Sv.ok_ext (x:Ext S w w' c c' rs rs'):∀(s:Sv) (u:Value),s.ok w S c rs u→s.ok w' S c' rs' u
 | .dead,u=>by simp [Sv.ok]
 | .v y,u=>by simp [Sv.ok]
 | .bor ts d,u=>by
  simp only [Sv.ok]
  rintro⟨h1,h0,h2⟩
  refine⟨x.tagB h1,h0,fun k=>?_⟩
  obtain⟨k1,k2,k3⟩:=x.tagV h1 k
  exact RdV.mono k2 _ _ (RdV.frame k3 _ _ (h2 k1))
 | .bptr ts d,u=>by
  simp only [Sv.ok]
  rintro⟨h1,h0,h2⟩
  refine⟨x.tagB h1,h0,fun k=>?_⟩
  obtain⟨k1,k2,k3⟩:=x.tagV h1 k
  exact PtrTo.mono k2 (PtrTo.frame k3 (h2 k1))
 | .sl i,u=>by
  simp only [Sv.ok]
  rintro⟨h1,h2⟩
  exact⟨Nat.le_trans h1 (x.ver i),by rw [(x.cn i h1).2];exact h2⟩
 | .ptr i o,u=>by
  simp only [Sv.ok]
  rintro⟨h1,h2⟩
  exact⟨Nat.le_trans h1 (x.ver i),by rw [(x.cn i h1).1];exact h2⟩
 | .bsl i o,u=>by
  simp only [Sv.ok]
  rintro⟨h1,h2⟩
  exact⟨Nat.le_trans h1 (x.ver i),by rw [(x.cn i h1).1];exact h2⟩
 | .agg l,u=>by
  simp only [Sv.ok]
  rintro⟨vs,h1,h2⟩
  exact⟨vs,h1,Sv.okL_ext x l vs h2⟩
 | .tup l,u=>by
  simp only [Sv.ok]
  rintro⟨vs,h1,h2⟩
  exact⟨vs,h1,Sv.okL_ext x l vs h2⟩
 | .fn f l,u=>by
  simp only [Sv.ok]
  rintro⟨vs,h1,h2⟩
  exact⟨vs,h1,Sv.okL_ext x l vs h2⟩
theorem Sv.okL_ext (x:Ext S w w' c c' rs rs'):∀(l:List Sv) (vs:List Value),Sv.okL w S c rs l vs→Sv.okL w' S c' rs' l vs
 |[],vs=>by simp [Sv.okL]
 |s::l,vs=>by
  simp only [Sv.okL]
  rintro⟨y,r,h1,h2,h3⟩
  exact⟨y,r,h1,Sv.ok_ext x s y h2,Sv.okL_ext x l r h3⟩
end
end
theorem Sv.okL.length {w:World} {S:Nat→Prop} {c:Nat→Cn} {rs:Nat→Rs}:∀{l:List Sv} {vs:List Value},Sv.okL w S c rs l vs→vs.length=l.length
 |[],vs,h=>by simp [Sv.okL]at h;simp [h]
 |s::l,vs,h=>by
  simp only [Sv.okL]at h
  obtain⟨x,r,rfl,_,h3⟩:=h
  simp [Sv.okL.length h3]
theorem Sv.okL.get {w:World} {S:Nat→Prop} {c:Nat→Cn} {rs:Nat→Rs}:∀{l:List Sv} {vs:List Value} {k:Nat} {s:Sv},Sv.okL w S c rs l vs→l[k]? =some s→∃x,vs[k]? =some x∧s.ok w S c rs x
 |[],_,_,_,_,h=>by simp at h
 |s::l,vs,k,s',h,hk=>by
  simp only [Sv.okL]at h
  obtain⟨x,r,rfl,h2,h3⟩:=h
  cases k with
  |zero=>simp at hk;subst hk;exact⟨x,by simp,h2⟩
  |succ k=>simp at hk⊢;exact Sv.okL.get h3 hk
theorem Sv.okL.set {w:World} {S:Nat→Prop} {c:Nat→Cn} {rs:Nat→Rs}:∀{l:List Sv} {vs:List Value} {k:Nat} {s:Sv} {x:Value},Sv.okL w S c rs l vs→s.ok w S c rs x→Sv.okL w S c rs (l.set k s) (vs.set k x)
 |[],vs,k,s,x,h,_=>by simp [Sv.okL]at h;subst h;simp [Sv.okL]
 |s0::l,vs,k,s,x,h,hs=>by
  simp only [Sv.okL]at h
  obtain⟨y,r,rfl,h2,h3⟩:=h
  cases k with
  |zero=>simp only [List.set_cons_zero,Sv.okL];exact⟨x,r,rfl,hs,h3⟩
  |succ k=>simp only [List.set_cons_succ,Sv.okL];exact⟨y,_,rfl,h2,Sv.okL.set h3 hs⟩
theorem Sv.okL.append {w:World} {S:Nat→Prop} {c:Nat→Cn} {rs:Nat→Rs}:∀{l m:List Sv} {vs us:List Value},Sv.okL w S c rs l vs→Sv.okL w S c rs m us→Sv.okL w S c rs (l++m) (vs++us)
 |[],m,vs,us,h,k=>by simp [Sv.okL]at h;subst h;simpa using k
 |s::l,m,vs,us,h,k=>by
  simp only [Sv.okL]at h
  obtain⟨y,r,rfl,h2,h3⟩:=h
  simp only [List.cons_append,Sv.okL]
  exact⟨y,_,rfl,h2,Sv.okL.append h3 k⟩
theorem Sv.okL.slice {w:World} {S:Nat→Prop} {c:Nat→Cn} {rs:Nat→Rs}:∀(l:List Sv) (vs:List Value) (i n:Nat),Sv.okL w S c rs l vs→Sv.okL w S c rs ((l.drop i).take n) ((vs.drop i).take n)
 |[],vs,i,n,h=>by simp [Sv.okL]at h;subst h;simp [Sv.okL]
 |s::l,vs,i,n,h=>by
  simp only [Sv.okL]at h
  obtain⟨x,r,rfl,h2,h3⟩:=h
  cases i with
  |succ i=>simpa using Sv.okL.slice l r i n h3
  |zero=>
   cases n with
   |zero=>simp [Sv.okL]
   |succ n=>simp only [List.drop_zero,List.take_succ_cons,Sv.okL];exact⟨x,_,rfl,h2,by simpa using Sv.okL.slice l r 0 n h3⟩
theorem rL {S:Nat→Prop} {w w':World} {c c':Nat→Cn} {rs rs':Nat→Rs} (x:Ext S w w' c c' rs rs') {hs:List (Nat×Sv)}:∀(ds:List Dt) (p:Nat) (F:Nat→Prop) (vs:List Value),Agree F w w'→OwH w S c rs hs F p ds vs→OwH w' S c' rs' hs F p ds vs
 |[],_,_,_,_,h=>h
 |d::ds,p,F,vs,ag,h=>by
  simp only [OwH]at h⊢
  split at h
  ·obtain⟨y,r,h1,h2,h3⟩:=h
   exact⟨y,r,h1,Sv.ok_ext x _ _ h2,rL x ds _ _ _ ag h3⟩
  ·obtain⟨y,r,F1,F2,h1,f1,f2,f3,h2,h3⟩:=h
   exact⟨y,r,F1,F2,h1,f1,f2,f3,OwV.frame (ag.mono f1) _ _ h2,rL x ds _ _ _ (ag.mono f2) h3⟩
theorem Rk.ok_ext {S:Nat→Prop} {w w':World} {c c':Nat→Cn} {rs rs':Nat→Rs} (x:Ext S w w' c c' rs rs') {n:Cn} (ag:Agree n.fp w w'):
  ∀(k:Rk),k.ok w S c rs n→k.ok w' S c' rs' n
 | .gone,h=>h
 | .box cells,h=>by
  obtain⟨h1,cur,e,h2,h3⟩:=h
  exact⟨h1,cur,e,(ag _ h1).trans h2,Sv.okL_ext x _ _ h3⟩
 | .arr d,h=>⟨OwV.frame ag _ _ h.1,h.2⟩
 | .hol d hs,h=>by
  obtain⟨sz,df,cs,m,cap,cur,e,h1,h2,h3,h4,h5,h6,h7,h8,h9,h10⟩:=h
  exact⟨sz,df,cs,m,cap,cur,e,h1,h2,h3,h4,h5,h6,h7,(ag _ h7).trans h8,h9,rL x _ _ _ _ (ag.mono fun b hb=>hb.1) h10⟩
 | .bx cells k d,h=>by
  obtain⟨h1,cur,e,F,x',h2,h3,h4,h5,h6⟩:=h
  exact⟨h1,cur,e,F,x',(ag _ h1).trans h2,Sv.okL_ext x _ _ h3,h4,h5,OwV.frame (ag.mono fun b hb=>(h4 b hb).1) _ _ h6⟩
 | .ab p,h=>p.frame ag h
structure Cx where
 w0:World
 U:Nat→Prop
 S:Nat→Prop
 c0:Nat→Cn
 rs0:Nat→Rs
 n:Nat
 rd:Option Nat
 ds:List Deferred
def Gam (X:Cx) (tm:Nat→Sv) (rs:Nat→Rs) (a:Act) (w:World):Prop:=
 a.defers=X.ds∧a.tmps.size=X.n∧
 ∃c,Hp X.w0 X.U X.S c rs w∧(∀s,(tm s).ok w X.S c rs (a.tmps.getD s undef))∧
  (∀i,1≤(X.rs0 i).cv→1≤(rs i).cv∧(c i).blk=(X.c0 i).blk∧(c i).hdr=(X.c0 i).hdr)
def upd {α:Type} (f:Nat→α) (i:Nat) (x:α):Nat→α:=fun j=>if j=i then x else f j
theorem upd_same {α:Type} (f:Nat→α) (i:Nat) (x:α):upd f i x i=x:=by simp [upd]
theorem aO {α:Type} (f:Nat→α) {i j:Nat} (x:α) (h:j≠i):upd f i x j=f j:=by simp [upd,h]
def wM (tm:Nat→Sv) (d:Option Nat) (s:Sv):Nat→Sv:=match d with|some d=>upd tm d s|none=>tm
def dC (rs:Nat→Rs):List (Nat×Rs)→Nat→Rs
 |[]=>rs
 |(i,r)::l=>upd (dC rs l) i r
end Go.Eng
end
section
namespace Go.Eng
open Go
/-! ### What is known of a type -/
inductive Tk where
 |no
 |sc
 |ik (k:IntKind)
 |st (fs:List (Nat×Nat))
 |sli (e:TypeId) (esz eby:Nat) (ez:List Value)
 |strk
 |bk
 |ar (n esz:Nat)
structure Ti where
  k : Tk
  size : Nat
  by_ : Nat
  z : List Value
  /-- the default cell of a slice of this type: a label, of which nothing is asked -/
  dd : Dt := default
def Ti.no:Ti:=⟨.no,0,0,[],default⟩
def lS (P:Program) (t:TypeId) (size by_:Nat) (z:List Value):Prop:=
 ∃i zv,P.info? t=some i∧i.size=size∧i.bytes=by_∧i.zero=some zv∧zv.cells.toList=z
def aR (P:Program) (t:TypeId) (ti:Ti):Prop:=
 match ti.k with
 | .no=>True
 | .sc=>lS P t ti.size ti.by_ ti.z∧∃d,P.underlying t=some d∧(match d with| .struct _| .array _ _=>False|_=>True)
 | .ik k=>lS P t ti.size ti.by_ ti.z∧P.underlying t=some (.int k)
 | .strk=>lS P t ti.size ti.by_ ti.z∧P.underlying t=some .string
 | .bk=>lS P t ti.size ti.by_ ti.z∧P.underlying t=some .bool
 | .st fs=>lS P t ti.size ti.by_ ti.z∧∃fa,P.underlying t=some (.struct fa)∧fa.toList.map (·.offset)=fs.map (·.1)∧
   fa.toList.map (fun f=>((P.info? f.type).map (·.size)).getD 0)=fs.map (·.2)∧fs.all (fun p=>p.2 !=0)=true
 | .sli e esz eby ez=>lS P t ti.size ti.by_ ti.z∧P.underlying t=some (.slice e)∧lS P e esz eby ez
 | .ar n esz=>lS P t ti.size ti.by_ ti.z∧∃e eby ez,P.underlying t=some (.array n e)∧lS P e esz eby ez
def Ti.agg (ti:Ti):Bool:=match ti.k with| .st _=>true| .ar _ _=>true|_=>false
def Ti.known (ti:Ti):Bool:=match ti.k with| .no=>false|_=>true
structure Env where
 P:Program
 ti:TypeId→Ti
 ok:∀t,aR P t (ti t)
 hk:(Nat→Cn)→(Nat→Rs)→Prop:=fun _ _=>True
theorem Env.info (E:Env) (t:TypeId) (h:(E.ti t).known=true):lS E.P t (E.ti t).size (E.ti t).by_ (E.ti t).z:=by
 have:=E.ok t
 unfold aR Ti.known at *
 split at this<;>simp_all
theorem Env.und_scalar (E:Env) (t:TypeId) (h:(E.ti t).known=true) (h2:(E.ti t).agg=false):
  ∃d,E.P.underlying t=some d∧(match d with| .struct _| .array _ _=>False|_=>True):=by
 have:=E.ok t
 unfold aR Ti.known Ti.agg at *
 split at this<;>simp_all
theorem aCy (E:Env) (t:TypeId) (w:World) (h:(E.ti t).known=true) (h2:(E.ti t).agg=false):(isAgg t).run E.P w= .ok false w:=by
 obtain⟨d,h3,h4⟩:=E.und_scalar t h h2
 unfold isAgg
 simp only [Sem.run_bind,run_underlying h3,Result.andThen_ok]
 split
 ·simp at h4
 ·simp at h4
 ·rfl
theorem aAR (E:Env) (t:TypeId) (w:World) (h2:(E.ti t).agg=true):(isAgg t).run E.P w= .ok true w:=by
 have:=E.ok t
 unfold aR Ti.agg at *
 split at this<;>simp_all
 ·obtain⟨_,fa,h3,_⟩:=this
  unfold isAgg
  simp [run_underlying h3]
 ·obtain⟨_,e,h3,_⟩:=this
  unfold isAgg
  simp [run_underlying h3]
theorem run_sizeOf (E:Env) (t:TypeId) (w:World) (h:(E.ti t).known=true):(sizeOf t).run E.P w= .ok (E.ti t).size w:=by
 obtain⟨i,zv,h1,h2,_⟩:=E.info t h
 simp [sizeOf,typeInfo,h1,h2]
/-! ### One operation -/
def opd (tm:Nat→Sv):Operand→Sv
 | .tmp t=>tm t
 | .const v=> .v v
 | .func f=> .fn f []
 | .global _=> .dead
def SStep0 (X:Cx) (P:Program) (o:Oper) (tm:Nat→Sv) (rs:Nat→Rs) (sv:Sv) (ru:List (Nat×Rs)):Prop:=
 ∀a w K Q,Gam X tm rs a w→(∀a' w',Gam X (wM tm o.dst sv) (dC rs ru) a' w'→K a' w')→o.wp P a w K Q
def Cx.F (X:Cx):Fence:={Fence.wide with round:=X.rd}
theorem Cx.F_fn (X:Cx) (f:FuncId):X.F.fn f:=trivial
theorem Cx.F_depth (X:Cx):X.F.depth=none:=rfl
theorem Cx.callsIn {X:Cx} {n:Nat} {P:Program} {f:FuncId} {args:Array Value} {w:World} {R:Ending→World→Prop} (h:Calls P f args w R):CallsIn X.F n P f args w R:=
 (callsIn_wide (n:=n)).2 h
theorem Cx.rowsIn {X:Cx} {n:Nat} {P:Program} {row:String} {args:Array Value} {w:World} {R:Value→World→Prop} (h:Rows P row args w R):RowsIn X.F n P row args w R:=
 fun c cs _=>let ⟨v,w',r,s⟩:=h c cs;⟨v,w',r,stepsIn_wide.2 s⟩
def bG (X:Cx) (P:Program) (o:Oper) (tm:Nat→Sv) (rs:Nat→Rs) (sv:Sv) (ru:List (Nat×Rs)):Prop:=
 ∀a w (K:Act→World→Prop) (Q:Exit→Act→World→Prop),Gam X tm rs a w→(∀a' w',Gam X (wM tm o.dst sv) (dC rs ru) a' w'→K a' w')→o.wpIn X.F 0 P a w K Q
theorem SStep0.inn {X:Cx} {P:Program} {o:Oper} {tm:Nat→Sv} {rs:Nat→Rs} {sv:Sv} {ru:List (Nat×Rs)} (h:SStep0 X P o tm rs sv ru):bG X P o tm rs sv ru:=by
 intro a w K Q hg hK
 have h1:=h a w (fun a' w'=>Gam X (wM tm o.dst sv) (dC rs ru) a' w') (fun _ _ _=>False) hg fun _ _ h=>h
 refine⟨fun f _=>X.F_fn f,?_⟩
 unfold Oper.wp at h1
 have hsem:(o.semAt X.F.round a.eval).run P w=(execOp a.eval o).run P w∨∃c,o.op= .defer c:=by
  by_cases hd:∃c,o.op= .defer c
  ·exact .inr hd
  ·exact .inl (by rw [Oper.semAt_eq _ _ _ fun c e=>hd ⟨c,e⟩])
 rcases hsem with hsem|⟨c,hc⟩
 ·rw [hsem]
  generalize (execOp a.eval o).run P w=r at h1⊢
  cases r with
  |ok x w'=>
   cases x with
   |value v=>exact hK _ _ h1
   |skip=>exact hK _ _ h1
   |defer d=>
    have h2:({a with defers:=d::a.defers}.put o.dst undef).defers=X.ds:=h1.1
    have h3:({a with defers:=d::a.defers}.put o.dst undef).defers=d::a.defers:=by cases o.dst<;>rfl
    rw [h3,hg.1]at h2
    exact absurd (congrArg List.length h2) (by simp)
   |enter f args=>
    refine⟨fun e=>(by rw [X.F_depth]at e;cases e),Cx.callsIn (X:=X) (Calls.mono h1 fun e w'' he=>?_)⟩
    cases e with
    |returned v=>exact hK _ _ he
    |panicked ch=>exact he.elim
    |outgrown=>obtain⟨_,_,hf⟩:=he;exact hf.elim
   |row row args=>exact⟨fun e=>(by rw [X.F_depth]at e;cases e),Cx.rowsIn (X:=X) (Rows.mono h1 fun v w'' he=>hK _ _ he)⟩
   |_=>exact h1.elim
  |halt x w'=>cases x<;>exact h1.elim
 ·exfalso
  have he:execOp a.eval o=(do pure (.defer (←resolve a.eval c o.type))):=by
   unfold execOp;rw [hc]
  rw [he]at h1
  simp only [Sem.run_bind]at h1
  cases hr:(resolve a.eval c o.type).run P w with
  |ok d w'=>
   rw [hr]at h1
   simp only [Result.andThen_ok,Sem.run_pure]at h1
   have h2:({a with defers:=d::a.defers}.put o.dst undef).defers=X.ds:=h1.1
   have h3:({a with defers:=d::a.defers}.put o.dst undef).defers=d::a.defers:=by cases o.dst<;>rfl
   rw [h3,hg.1]at h2
   exact absurd (congrArg List.length h2) (by simp)
  |halt x w'=>
   rw [hr]at h1
   cases x<;>exact h1.elim
theorem Addr.add_plain (b o n:Nat):(⟨b,o,none⟩:Addr).add n=⟨b,o+n,none⟩:=by
 unfold Addr.add;split<;>simp_all
section
variable {X:Cx} {E:Env} {o:Oper} {tm:Nat→Sv} {rs:Nat→Rs}
theorem bX {a:Act} {w:World} {c:Nat→Cn} (h:∀s,(tm s).ok w X.S c rs (a.tmps.getD s undef)) (x:Operand):(opd tm x).ok w X.S c rs (a.eval x):=by
 cases x with
 |tmp t=>exact h t
 |const v=>simp [opd,Act.eval,Sv.ok]
 |func f=>simp [opd,Act.eval,Sv.ok,Sv.okL]
 |global g=>simp [opd,Sv.ok]
theorem bO {a:Act} {w w':World} {c c':Nat→Cn} {rs':Nat→Rs} (hd:a.defers=X.ds) (hn:a.tmps.size=X.n)
  (ht:∀s,(tm s).ok w X.S c rs (a.tmps.getD s undef))
  (hp:∀i,1≤(X.rs0 i).cv→1≤(rs i).cv∧(c i).blk=(X.c0 i).blk∧(c i).hdr=(X.c0 i).hdr)
  (x:Ext X.S w w' c c' rs rs') (hp':Hp X.w0 X.U X.S c' rs' w') {d:Option Nat} (hdn:∀k,d=some k→k<X.n) {sv:Sv} {v:Value}
  (hv:sv.ok w' X.S c' rs' v):Gam X (wM tm d sv) rs' (a.put d v) w':=by
 cases d with
 |none=>
  exact⟨hd,hn,c',hp',fun s=>Sv.ok_ext x _ _ (ht s),fun i hi=>⟨Nat.le_trans (hp i hi).1 (x.ver i),(x.cn i (hp i hi).1).1.trans (hp i hi).2.1,(x.cn i (hp i hi).1).2.trans (hp i hi).2.2⟩⟩
 |some k=>
  have hk:=hdn k rfl
  refine⟨hd,by simp [Act.put,hn],c',hp',fun s=>?_,fun i hi=>⟨Nat.le_trans (hp i hi).1 (x.ver i),(x.cn i (hp i hi).1).1.trans (hp i hi).2.1,(x.cn i (hp i hi).1).2.trans (hp i hi).2.2⟩⟩
  simp only [wM,upd,Act.put]
  split
  ·rename_i e
   subst e
   have:(a.tmps.setIfInBounds s v).getD s undef=v:=by simp [Array.getD,hn,hk]
   rw [this];exact hv
  ·rename_i e
   have:(a.tmps.setIfInBounds k v).getD s undef=a.tmps.getD s undef:=by
    simp only [Array.getD_eq_getD_getElem?]
    rw [Array.getElem?_setIfInBounds_ne (by omega)]
   rw [this]
   exact Sv.ok_ext x _ _ (ht s)
theorem aY {sv:Sv} (hdn:∀k,o.dst=some k→k<X.n)
  (h:∀(a:Act) (w:World) (c:Nat→Cn),Hp X.w0 X.U X.S c rs w→(∀x,(opd tm x).ok w X.S c rs (a.eval x))→∃v,(execOp a.eval o).run E.P w= .ok (.value v) w∧sv.ok w X.S c rs v):
  bG X E.P o tm rs sv []:=by
 refine SStep0.inn ?_
 rintro a w K Q ⟨hd,hn,c,hp,ht,hpin⟩ hK
 obtain⟨v,h1,h2⟩:=h a w c hp (bX ht)
 unfold Oper.wp
 rw [h1]
 exact hK _ _ (bO hd hn ht hpin (Ext.refl _ _ _ _) hp hdn h2)
theorem aH8 (hdn:∀k,o.dst=some k→k<X.n) (x:Operand) (ho:o.op= .move x):bG X E.P o tm rs (opd tm x) []:=
 aY hdn fun a w c _ h=>⟨a.eval x,by simp [execOp,ho],h x⟩
theorem aEj (hdn:∀k,o.dst=some k→k<X.n) (x:Operand) (ho:o.op= .assign x):bG X E.P o tm rs (opd tm x) []:=
 aY hdn fun a w c _ h=>⟨a.eval x,by simp [execOp,ho],h x⟩
theorem aA3 (hdn:∀k,o.dst=some k→k<X.n) (x:Operand) (ho:o.op= .nilCheck x) (i off:Nat) (hx:opd tm x= .ptr i off):bG X E.P o tm rs (.ptr i off) []:=
 aY hdn fun a w c _ h=>by
  have h1:=h x
  rw [hx]at h1
  simp only [Sv.ok]at h1
  exact⟨a.eval x,by simp [execOp,ho,h1.2],by simpa [Sv.ok]using h1⟩
theorem wH (hdn:∀k,o.dst=some k→k<X.n) (x:Operand) (ho:o.op= .nilCheck x) (ts:List (Nat×Nat)) (ds:List Dt) (hx:opd tm x= .bptr ts ds) (htv:gI rs ts):
  bG X E.P o tm rs (.bptr ts ds) []:=
 aY hdn fun a w c _ h=>by
  have h1:=h x
  rw [hx]at h1
  have h2:=h1
  simp only [Sv.ok]at h2
  obtain⟨b,of,vs,e1,_⟩:=h2.2.2 htv
  exact⟨a.eval x,by simp [execOp,ho,e1],h1⟩
theorem vD (s:TypeId) (fs:List (Nat×Nat)) (hk:(E.ti s).k= .st fs) (f off sz:Nat) (hf:fs[f]? =some (off,sz)) (b p:Nat) (w:World):
  (Instr.fieldAt s (.pointer (some ⟨b,p,none⟩)) f).run E.P w= .ok (.pointer (some ⟨b,p+off,none⟩)) w:=by
 have:=E.ok s
 simp only [aR,hk]at this
 obtain⟨_,fa,h1,h2,h3,h4⟩:=this
 have hfl:f<fs.length:=(List.getElem?_eq_some_iff.1 hf).1
 have hfa:f<fa.size:=by have:=congrArg List.length h2;simp at this;omega
 obtain⟨fl,hget⟩:∃fl,fa[f]? =some fl:=⟨fa[f],by simp [hfa]⟩
 have hgl:fa.toList[f]? =some fl:=by simpa using hget
 have e2:fl.offset=off:=by
  have:=congrArg (·[f]?) h2
  simp only [List.getElem?_map,hf,hgl,Option.map_some]at this
  exact Option.some.inj this
 have e3:((E.P.info? fl.type).map (·.size)).getD 0=sz:=by
  have:=congrArg (·[f]?) h3
  simp only [List.getElem?_map,hf,hgl,Option.map_some]at this
  exact Option.some.inj this
 have e4:sz≠0:=by
  have:=List.all_eq_true.1 h4 (off,sz) (List.mem_of_getElem? hf)
  simpa using this
 cases hi:E.P.info? fl.type with
 |none=>rw [hi]at e3;simp at e3;exact absurd e3.symm e4
 |some inf=>
  rw [hi]at e3
  simp at e3
  have e5:¬inf.size=0:=by omega
  simp [Instr.fieldAt,run_underlying h1,hget,Instr.sureAddr,fieldPlace,sizeOf,typeInfo,hi,e5,Addr.add_plain,e2]
theorem aAs (hdn:∀k,o.dst=some k→k<X.n) (s:TypeId) (x:Operand) (f:Nat) (ho:o.op= .fieldAddr s x f) (i p:Nat) (hx:opd tm x= .ptr i p)
  (fs:List (Nat×Nat)) (hk:(E.ti s).k= .st fs) (off sz:Nat) (hf:fs[f]? =some (off,sz)):bG X E.P o tm rs (.ptr i (p+off)) []:=
 aY hdn fun a w c _ h=>by
  have h1:=h x
  rw [hx]at h1
  simp only [Sv.ok]at h1
  exact⟨.pointer (some ⟨(c i).blk,p+off,none⟩),by simp [execOp,ho,h1.2,vD s fs hk f off sz hf],by simpa [Sv.ok]using h1.1⟩
theorem PtrTo.drop {w:World} {R:Nat→Prop} {ds:List Dt} {b p:Nat} (off:Nat) (h:PtrTo w R ds (.pointer (some ⟨b,p,none⟩))):PtrTo w R (ds.drop off) (.pointer (some ⟨b,p+off,none⟩)):=by
 obtain⟨b',o',vs,e1,e2,e3,e4⟩:=h
 simp at e1
 obtain⟨rfl,rfl⟩:=e1
 have h5:RdL w R (ds.drop off) (vs.drop off):=by
  have:=RdL.slice ds vs off ds.length e3
  rwa [List.take_of_length_le (by simp),List.take_of_length_le (by simp [RdL.length e3])]at this
 refine⟨b,p+off,vs.drop off,rfl,fun hc=>e2 (fun e=>hc (by simp [e])),h5,fun k x hk=>?_⟩
 rw [List.getElem?_drop]at hk
 have:=e4 _ _ hk
 rwa [←Nat.add_assoc]at this
theorem PtrTo.take {w:World} {R:Nat→Prop} {ds:List Dt} {u:Value} (n:Nat) (h:PtrTo w R ds u):PtrTo w R (ds.take n) u:=by
 obtain⟨b',o',vs,e1,e2,e3,e4⟩:=h
 have h5:RdL w R (ds.take n) (vs.take n):=by simpa using RdL.slice ds vs 0 n e3
 refine⟨b',o',vs.take n,e1,fun hc=>e2 (fun e=>hc (by simp [e])),h5,fun k x hk=>e4 k x ?_⟩
 rw [List.getElem?_take]at hk
 split at hk
 ·exact hk
 ·cases hk
theorem uK (hdn:∀k,o.dst=some k→k<X.n) (s:TypeId) (x:Operand) (f:Nat) (ho:o.op= .fieldAddr s x f) (ts:List (Nat×Nat)) (ds:List Dt) (hx:opd tm x= .bptr ts ds) (htv:gI rs ts)
  (fs:List (Nat×Nat)) (hk:(E.ti s).k= .st fs) (off sz:Nat) (hf:fs[f]? =some (off,sz)):bG X E.P o tm rs (.bptr ts ((ds.drop off).take sz)) []:=
 aY hdn fun a w c _ h=>by
  have h1:=h x
  rw [hx]at h1
  simp only [Sv.ok]at h1
  obtain⟨b,of,vs,e1,e⟩:=h1.2.2 htv
  refine⟨.pointer (some ⟨b,of+off,none⟩),by simp [execOp,ho,e1,vD s fs hk f off sz hf],?_⟩
  simp only [Sv.ok]
  refine⟨h1.1,rfl,fun _=>PtrTo.take sz (PtrTo.drop off ?_)⟩
  exact⟨b,of,vs,rfl,e⟩
/-! ### Loads -/
def Sv.ofDt (ts:List (Nat×Nat)):Dt→Sv
 | .v x=> .v x
 | .sl sz df cs=> .bor ts (.sl sz df cs)
 | .pt cs=> .bptr ts cs
 | .ab p=> .bor ts (.ab p)
theorem RdV.one {w:World} {R:Nat→Prop} {sz:Nat} {df:Dt} {cs:List Dt} {u:Value} (h:RdV w R (.sl sz df cs) u):u.oneCell'=true:=by
 simp only [RdV]at h
 rcases h.2 with h1|⟨g,off,sp,n,cap,vs,h1,_⟩
 ·rw [h1.1];rfl
 ·rw [h1];rfl
theorem Sv.ofDt_ok {w:World} {S:Nat→Prop} {c:Nat→Cn} {ts:List (Nat×Nat)} (hb:vN rs ts):∀{d:Dt} {u:Value},RdV w (Reg S c ts) d u→(Sv.ofDt ts d).ok w S c rs u
 | .v x,u,h=>by simpa [Sv.ofDt,Sv.ok,RdV]using h
 | .sl sz df cs,u,h=>by simp only [Sv.ofDt,Sv.ok];exact⟨hb,h.one,fun _=>h⟩
 | .pt cs,u,h=>by
  simp only [RdV]at h
  obtain⟨b,o,vs,rfl,e⟩:=h
  simp only [Sv.ofDt,Sv.ok]
  exact⟨hb,rfl,fun _=>⟨b,o,vs,rfl,e⟩⟩
 | .ab p,u,h=>by
  simp only [Sv.ofDt,Sv.ok]
  have h':=h
  simp only [RdV]at h'
  exact⟨hb,h'.1,fun _=>h⟩
theorem Sv.ofDt_okL {w:World} {S:Nat→Prop} {c:Nat→Cn} {ts:List (Nat×Nat)} (hb:vN rs ts):∀{ds:List Dt} {us:List Value},RdL w (Reg S c ts) ds us→Sv.okL w S c rs (ds.map (Sv.ofDt ts)) us
 |[],us,h=>by simpa [RdL,Sv.okL]using h
 |d::ds,us,h=>by
  simp only [RdL]at h
  obtain⟨x,r,h1,h2,h3⟩:=h
  simp only [List.map_cons,Sv.okL]
  exact⟨x,r,h1,Sv.ofDt_ok hb h2,Sv.ofDt_okL hb h3⟩
theorem iH {t:TypeId} (hk:(E.ti t).known=true) (ha:(E.ti t).agg=false) {b p:Nat} {w:World} {v:Value} (hc:w.cell? ⟨b,p,none⟩=some v):
  (Instr.loadAt t (.pointer (some ⟨b,p,none⟩))).run E.P w= .ok v w:=by
 simp [Instr.loadAt,Instr.sureAddr,loadVar,aCy E t w hk ha,load,Sem.run,hc]
theorem mZ {t:TypeId} (hk:(E.ti t).known=true) (ha:(E.ti t).agg=true) {b p:Nat} {w:World} {vs:List Value} (hl:vs.length=(E.ti t).size)
  (hc:∀k x,vs[k]? =some x→w.cell? ⟨b,p+k,none⟩=some x):
  (Instr.loadAt t (.pointer (some ⟨b,p,none⟩))).run E.P w= .ok (.agg vs.toArray) w:=by
 have h:=run_loadCells_list (P:=E.P) w ⟨b,p,none⟩ vs (fun j v hj=>by rw [Addr.add_plain];exact hc j v hj)
 rw [hl]at h
 simp [Instr.loadAt,Instr.sureAddr,loadVar,aAR E t w ha,run_sizeOf E t w hk,h]
theorem aA0 (hdn:∀k,o.dst=some k→k<X.n) (t:TypeId) (x:Operand) (ho:o.op= .load t x) (i p:Nat) (hx:opd tm x= .ptr i p)
  (hk:(E.ti t).known=true) (ha:(E.ti t).agg=false) (cv:Nat) (cells:List Sv) (hr:rs i=⟨cv, .box cells⟩) (s:Sv) (hs:cells[p]? =some s):bG X E.P o tm rs s []:=
 aY hdn fun a w c hp h=>by
  have h1:=h x
  rw [hx]at h1
  simp only [Sv.ok]at h1
  have h2:=hp.res i
  rw [hr]at h2
  obtain⟨_,cur,e,h3,h4⟩:=h2
  obtain⟨v,h5,h6⟩:=Sv.okL.get h4 hs
  refine⟨v,?_,h6⟩
  have hc:w.cell? ⟨(c i).blk,p,none⟩=some v:=by simp [World.cell?,h3];simpa using h5
  simp [execOp,ho,h1.2,iH hk ha hc]
theorem aCO (hdn:∀k,o.dst=some k→k<X.n) (t:TypeId) (x:Operand) (ho:o.op= .load t x) (i p:Nat) (hx:opd tm x= .ptr i p)
  (hk:(E.ti t).known=true) (ha:(E.ti t).agg=false) (cv:Nat) (cells:List Sv) (kk:Nat) (d:Dt) (hr:rs i=⟨cv, .bx cells kk d⟩) (s:Sv) (hs:cells[p]? =some s):bG X E.P o tm rs s []:=
 aY hdn fun a w c hp h=>by
  have h1:=h x
  rw [hx]at h1
  simp only [Sv.ok]at h1
  have h2:=hp.res i
  rw [hr]at h2
  obtain⟨_,cur,e,_,_,h3,h4,_⟩:=h2
  obtain⟨v,h5,h6⟩:=Sv.okL.get h4 hs
  refine⟨v,?_,h6⟩
  have hc:w.cell? ⟨(c i).blk,p,none⟩=some v:=by simp [World.cell?,h3];simpa using h5
  simp [execOp,ho,h1.2,iH hk ha hc]
theorem sZ (hdn:∀k,o.dst=some k→k<X.n) (t:TypeId) (x:Operand) (ho:o.op= .load t x) (i p:Nat) (hx:opd tm x= .ptr i p)
  (hk:(E.ti t).known=true) (ha:(E.ti t).agg=true) (cv:Nat) (cells:List Sv) (hr:rs i=⟨cv, .box cells⟩) (hl:p+(E.ti t).size≤cells.length):
  bG X E.P o tm rs (.agg ((cells.drop p).take (E.ti t).size)) []:=
 aY hdn fun a w c hp h=>by
  have h1:=h x
  rw [hx]at h1
  simp only [Sv.ok]at h1
  have h2:=hp.res i
  rw [hr]at h2
  obtain⟨_,cur,e,h3,h4⟩:=h2
  have h5:=Sv.okL.slice cells cur.toList p (E.ti t).size h4
  have hcl:=Sv.okL.length h4
  have hlen:((cur.toList.drop p).take (E.ti t).size).length=(E.ti t).size:=by simp at hcl⊢;omega
  refine⟨.agg ((cur.toList.drop p).take (E.ti t).size).toArray,?_,?_⟩
  ·have:=mZ (E:=E) (t:=t) hk ha (b:=(c i).blk) (p:=p) (w:=w) (vs:=(cur.toList.drop p).take (E.ti t).size) hlen (fun k v hkv=>by
    rw [List.getElem?_take]at hkv
    split at hkv
    ·rw [List.getElem?_drop]at hkv;simp [World.cell?,h3];simpa using hkv
    ·cases hkv)
   simp only [execOp,ho,h1.2,Sem.run_bind,this,Result.andThen_ok]
   rfl
  ·simp only [Sv.ok];exact⟨_,rfl,h5⟩
theorem aAD {i cv:Nat} {k:Rk} (hr:rs i=⟨cv,k⟩) (h1:1≤cv):vN rs [(i,cv)]:=by
 intro p hp
 simp at hp
 subst hp
 simp only [hr]
 exact⟨h1,Nat.le_refl _⟩
theorem tI {w:World} {S:Nat→Prop} {c:Nat→Cn} {n:Cn} {sz:Nat} {df:Dt} {cs:List Dt} (h:Rk.ok w S c rs n (.arr (.sl sz df cs))):
  0<sz∧∃vs,RdL w n.fp cs vs∧∀k x,vs[k]? =some x→w.cell? ⟨n.blk,k,none⟩=some x:=by
 obtain⟨h1,h2⟩:=h
 simp only [OwV]at h1
 refine⟨h1.1,?_⟩
 rcases h1.2 with⟨_,rfl⟩|⟨g,m,cap,cur,e,e1,e2,e3,e4,e5,e6,e7,e8⟩
 ·exact⟨[],by simp [RdL],by simp⟩
 ·have h3:=h2 _ _ _ e1
  simp at h3
  subst h3
  refine⟨_,RdL.mono (fun b hb=>hb.1) _ _ (OwL.rd _ _ e8),fun k x hk=>?_⟩
  rw [List.getElem?_take]at hk
  split at hk
  ·simp [World.cell?,e6];simpa using hk
  ·cases hk
theorem aAZ (hdn:∀k,o.dst=some k→k<X.n) (t:TypeId) (x:Operand) (ho:o.op= .load t x) (i p:Nat) (hx:opd tm x= .ptr i p)
  (hk:(E.ti t).known=true) (ha:(E.ti t).agg=false) (cv:Nat) (sz:Nat) (df:Dt) (cs:List Dt) (hr:rs i=⟨cv, .arr (.sl sz df cs)⟩) (d:Dt) (hs:cs[p]? =some d):
  bG X E.P o tm rs (Sv.ofDt [(i,cv)] d) []:=
 aY hdn fun a w c hp h=>by
  have h1:=h x
  rw [hx]at h1
  simp only [Sv.ok]at h1
  have h2:=hp.res i
  rw [hr]at h2
  obtain⟨_,vs,h4,h5⟩:=tI h2
  obtain⟨v,h6,h7⟩:=RdL.get h4 hs
  have hc1:1≤cv:=by have:=h1.1;rw [hr]at this;exact this
  refine⟨v,by simp [execOp,ho,h1.2,iH hk ha (h5 _ _ h6)],Sv.ofDt_ok (aAD hr hc1) (RdV.mono (fun b hb=>?_) _ _ h7)⟩
  exact .inr ⟨(i,cv),by simp,hb⟩
theorem sY (hdn:∀k,o.dst=some k→k<X.n) (t:TypeId) (x:Operand) (ho:o.op= .load t x) (i p:Nat) (hx:opd tm x= .ptr i p)
  (hk:(E.ti t).known=true) (ha:(E.ti t).agg=true) (cv:Nat) (sz:Nat) (df:Dt) (cs:List Dt) (hr:rs i=⟨cv, .arr (.sl sz df cs)⟩) (hl:p+(E.ti t).size≤cs.length):
  bG X E.P o tm rs (.agg (((cs.drop p).take (E.ti t).size).map (Sv.ofDt [(i,cv)]))) []:=
 aY hdn fun a w c hp h=>by
  have h1:=h x
  rw [hx]at h1
  simp only [Sv.ok]at h1
  have h2:=hp.res i
  rw [hr]at h2
  obtain⟨_,vs,h4,h5⟩:=tI h2
  have h6:=RdL.slice cs vs p (E.ti t).size h4
  have hcl:=RdL.length h4
  have hlen:((vs.drop p).take (E.ti t).size).length=(E.ti t).size:=by simp;omega
  have hc1:1≤cv:=by have:=h1.1;rw [hr]at this;exact this
  refine⟨.agg ((vs.drop p).take (E.ti t).size).toArray,?_,?_⟩
  ·have:=mZ (E:=E) (t:=t) hk ha (b:=(c i).blk) (p:=p) (w:=w) (vs:=(vs.drop p).take (E.ti t).size) hlen (fun k v hkv=>by
    rw [List.getElem?_take]at hkv
    split at hkv
    ·rw [List.getElem?_drop]at hkv;exact h5 _ _ hkv
    ·cases hkv)
   simp only [execOp,ho,h1.2,Sem.run_bind,this,Result.andThen_ok]
   rfl
  ·simp only [Sv.ok]
   exact⟨_,rfl,Sv.ofDt_okL (aAD hr hc1) (RdL.mono (fun b hb=> .inr ⟨(i,cv),by simp,hb⟩) _ _ h6)⟩
theorem aEk (hdn:∀k,o.dst=some k→k<X.n) (t:TypeId) (x:Operand) (ho:o.op= .load t x) (ts:List (Nat×Nat)) (ds:List Dt) (hx:opd tm x= .bptr ts ds) (htv:gI rs ts)
  (hk:(E.ti t).known=true) (ha:(E.ti t).agg=false) (d:Dt) (hs:ds[0]? =some d):bG X E.P o tm rs (Sv.ofDt ts d) []:=
 aY hdn fun a w c hp h=>by
  have h1:=h x
  rw [hx]at h1
  simp only [Sv.ok]at h1
  obtain⟨b,of,vs,e1,e2,e3,e4⟩:=h1.2.2 htv
  obtain⟨v,h6,h7⟩:=RdL.get e3 hs
  have hc:w.cell? ⟨b,of,none⟩=some v:=by simpa using e4 _ _ h6
  refine⟨v,by simp [execOp,ho,e1,iH hk ha hc],Sv.ofDt_ok h1.1 h7⟩
theorem wG (hdn:∀k,o.dst=some k→k<X.n) (t:TypeId) (x:Operand) (ho:o.op= .load t x) (ts:List (Nat×Nat)) (ds:List Dt) (hx:opd tm x= .bptr ts ds) (htv:gI rs ts)
  (hk:(E.ti t).known=true) (ha:(E.ti t).agg=true) (hl:(E.ti t).size≤ds.length):bG X E.P o tm rs (.agg ((ds.take (E.ti t).size).map (Sv.ofDt ts))) []:=
 aY hdn fun a w c hp h=>by
  have h1:=h x
  rw [hx]at h1
  simp only [Sv.ok]at h1
  obtain⟨b,of,vs,e1,e2,e3,e4⟩:=h1.2.2 htv
  have h6:RdL w (Reg X.S c ts) (ds.take (E.ti t).size) (vs.take (E.ti t).size):=by simpa using RdL.slice ds vs 0 (E.ti t).size e3
  have hcl:=RdL.length e3
  refine⟨.agg (vs.take (E.ti t).size).toArray,?_,?_⟩
  ·have:=mZ (E:=E) (t:=t) hk ha (b:=b) (p:=of) (w:=w) (vs:=vs.take (E.ti t).size) (by simp;omega) (fun k v hkv=>by
    rw [List.getElem?_take]at hkv
    split at hkv
    ·exact e4 _ _ hkv
    ·cases hkv)
   simp only [execOp,ho,e1,Sem.run_bind,this,Result.andThen_ok]
   rfl
  ·simp only [Sv.ok]
   exact⟨_,rfl,Sv.ofDt_okL h1.1 h6⟩
end
end Go.Eng
end
section
namespace Go.Eng
open Go
section
variable {X:Cx} {E:Env} {o:Oper} {tm:Nat→Sv} {rs:Nat→Rs}
/-! ### Indexes -/
theorem lH {t e:TypeId} {esz eby:Nat} {ez:List Value} (hk:(E.ti t).k= .sli e esz eby ez) (g off n cap:Nat) (k:IntKind) (i:Int) (h0:0≤i) (h1:i<n) (w:World):
  (Instr.indexAt t (.slice (some ⟨g,off,none⟩) n cap) (.int k i)).run E.P w= .ok (.pointer (some ⟨g,off+i.toNat*esz,none⟩)) w:=by
 have:=E.ok t
 simp only [aR,hk]at this
 obtain⟨_,h2,inf,zv,h3,h4,_⟩:=this
 simp [Instr.indexAt,asIntOf,run_underlying h2,h0,h1,sizeOf,typeInfo,h3,h4,Addr.add_plain]
theorem aAt (hdn:∀k,o.dst=some k→k<X.n) (t:TypeId) (x y:Operand) (ho:o.op= .indexAddr t x y) (i:Nat) (hx:opd tm x= .sl i) (k:IntKind) (n:Int) (hy:opd tm y= .v (.int k n))
  (e:TypeId) (esz eby:Nat) (ez:List Value) (hk:(E.ti t).k= .sli e esz eby ez) (cv:Nat) (df:Dt) (cs:List Dt) (hr:rs i=⟨cv, .arr (.sl esz df cs)⟩) (h0:0≤n) (h1:n.toNat*esz<cs.length):
  bG X E.P o tm rs (.ptr i (n.toNat*esz)) []:=
 aY hdn fun a w c hp h=>by
  have hx1:=h x
  have hy1:=h y
  rw [hx]at hx1
  rw [hy]at hy1
  simp only [Sv.ok]at hx1 hy1
  have h2:=hp.res i
  rw [hr]at h2
  obtain⟨h3,h4⟩:=h2
  simp only [OwV]at h3
  rcases h3.2 with⟨_,rfl⟩|⟨g,m,cap,cur,e',e1,e2,_⟩
  ·simp at h1
  ·have h5:=h4 _ _ _ e1
   simp at h5
   subst h5
   have h6:n<m:=by
    have h7:n.toNat<m:=by
     rw [←e2]at h1
     exact Nat.lt_of_mul_lt_mul_right h1
    omega
   refine⟨.pointer (some ⟨(c i).blk,0+n.toNat*esz,none⟩),?_,?_⟩
   ·simp only [execOp,ho,hx1.2,hy1,e1,Sem.run_bind,lH hk _ _ _ _ k n h0 h6,Result.andThen_ok]
    rfl
   ·simp only [Sv.ok];exact⟨hx1.1,by simp⟩
theorem aAu (hdn:∀k,o.dst=some k→k<X.n) (t:TypeId) (x y:Operand) (ho:o.op= .indexAddr t x y) (ts:List (Nat×Nat)) (df:Dt) (cs:List Dt)
  (k:IntKind) (n:Int) (hy:opd tm y= .v (.int k n))
  (e:TypeId) (esz eby:Nat) (ez:List Value) (hk:(E.ti t).k= .sli e esz eby ez) (hx:opd tm x= .bor ts (.sl esz df cs)) (htv:gI rs ts) (h0:0≤n) (h1:n.toNat*esz<cs.length):
  bG X E.P o tm rs (.bptr ts (cs.drop (n.toNat*esz))) []:=
 aY hdn fun a w c hp h=>by
  have hx1:=h x
  have hy1:=h y
  rw [hx]at hx1
  rw [hy]at hy1
  simp only [Sv.ok]at hx1 hy1
  have h3:=hx1.2.2 htv
  simp only [RdV]at h3
  rcases h3.2 with⟨_,rfl⟩|⟨g,off,sp,m,cap,vs,e1,e2,_,_,e5',e6,e7⟩
  ·simp at h1
  obtain⟨rfl,e5⟩:=e5' (fun q=>by subst q;simp at h1)
  have e5:cs≠[]→Reg X.S c ts g:=fun _=>e5
  ·have h6:n<m:=by
    have h7:n.toNat<m:=by
     rw [←e2]at h1
     exact Nat.lt_of_mul_lt_mul_right h1
    omega
   refine⟨.pointer (some ⟨g,off+n.toNat*esz,none⟩),?_,?_⟩
   ·simp only [execOp,ho,hy1,e1,Sem.run_bind,lH hk _ _ _ _ k n h0 h6,Result.andThen_ok]
    rfl
   ·simp only [Sv.ok]
    exact⟨hx1.1,rfl,fun _=>PtrTo.drop _ ⟨g,off,vs,rfl,e5,e6,e7⟩⟩
theorem aAv (hdn:∀k,o.dst=some k→k<X.n) (t:TypeId) (x y:Operand) (ho:o.op= .indexAddr t x y) (i m:Nat) (hx:opd tm x= .bsl i m) (k:IntKind) (n:Int) (hy:opd tm y= .v (.int k n))
  (e:TypeId) (esz eby:Nat) (ez:List Value) (hk:(E.ti t).k= .sli e esz eby ez) (h0:0≤n) (h1:n<m):
  bG X E.P o tm rs (.ptr i (n.toNat*esz)) []:=
 aY hdn fun a w c hp h=>by
  have hx1:=h x
  have hy1:=h y
  rw [hx]at hx1
  rw [hy]at hy1
  simp only [Sv.ok]at hx1 hy1
  refine⟨.pointer (some ⟨(c i).blk,0+n.toNat*esz,none⟩),?_,?_⟩
  ·simp only [execOp,ho,hx1.2,hy1,Sem.run_bind,lH hk _ _ _ _ k n h0 h1,Result.andThen_ok]
   rfl
  ·simp only [Sv.ok];exact⟨hx1.1,by simp⟩
/-! ### Elements of an array -/
theorem yV {t:TypeId} {n esz:Nat} (hk:(E.ti t).k= .ar n esz) (b p:Nat) (k:IntKind) (i:Int) (h0:0≤i) (h1:i<n) (w:World):
  (Instr.indexAt t (.pointer (some ⟨b,p,none⟩)) (.int k i)).run E.P w= .ok (.pointer (some ⟨b,p+i.toNat*esz,none⟩)) w:=by
 have:=E.ok t
 simp only [aR,hk]at this
 obtain⟨_,e,eby,ez,h2,inf,zv,h3,h4,_⟩:=this
 simp [Instr.indexAt,asIntOf,run_underlying h2,Instr.sureAddr,h0,h1,sizeOf,typeInfo,h3,h4,Addr.add_plain]
theorem aAY (hdn:∀k,o.dst=some k→k<X.n) (t:TypeId) (x y:Operand) (ho:o.op= .indexAddr t x y) (i p:Nat) (hx:opd tm x= .ptr i p) (k:IntKind) (n:Int) (hy:opd tm y= .v (.int k n))
  (m esz:Nat) (hk:(E.ti t).k= .ar m esz) (h0:0≤n) (h1:n<m):bG X E.P o tm rs (.ptr i (p+n.toNat*esz)) []:=
 aY hdn fun a w c hp h=>by
  have hx1:=h x
  have hy1:=h y
  rw [hx]at hx1
  rw [hy]at hy1
  simp only [Sv.ok]at hx1 hy1
  refine⟨.pointer (some ⟨(c i).blk,p+n.toNat*esz,none⟩),?_,by simpa [Sv.ok]using hx1.1⟩
  simp only [execOp,ho,hx1.2,hy1,Sem.run_bind,yV hk _ _ k n h0 h1,Result.andThen_ok]
  rfl
theorem wE (hdn:∀k,o.dst=some k→k<X.n) (t:TypeId) (x y:Operand) (ho:o.op= .indexAddr t x y) (ts:List (Nat×Nat)) (ds:List Dt) (hx:opd tm x= .bptr ts ds) (htv:gI rs ts) (k:IntKind) (n:Int)
  (hy:opd tm y= .v (.int k n)) (m esz:Nat) (hk:(E.ti t).k= .ar m esz) (h0:0≤n) (h1:n<m):bG X E.P o tm rs (.bptr ts ((ds.drop (n.toNat*esz)).take esz)) []:=
 aY hdn fun a w c hp h=>by
  have hx1:=h x
  have hy1:=h y
  rw [hx]at hx1
  rw [hy]at hy1
  simp only [Sv.ok]at hx1 hy1
  obtain⟨b,of,vs,e1,e⟩:=hx1.2.2 htv
  refine⟨.pointer (some ⟨b,of+n.toNat*esz,none⟩),?_,?_⟩
  ·simp only [execOp,ho,e1,hy1,Sem.run_bind,yV hk _ _ k n h0 h1,Result.andThen_ok]
   rfl
  ·simp only [Sv.ok]
   exact⟨hx1.1,rfl,fun _=>PtrTo.take esz (PtrTo.drop _ ⟨b,of,vs,rfl,e⟩)⟩
/-! ### Arithmetic and tests -/
theorem bM (hdn:∀k,o.dst=some k→k<X.n) (u:Value)
  (h:∀(a:Act) (w:World) (c:Nat→Cn),Hp X.w0 X.U X.S c rs w→(∀x,(opd tm x).ok w X.S c rs (a.eval x))→(execOp a.eval o).run E.P w= .ok (.value u) w):
  bG X E.P o tm rs (.v u) []:=
 aY hdn fun a w c hp hx=>⟨u,h a w c hp hx,by simp [Sv.ok]⟩
def aHp (op:BinOp) (k:IntKind) (a b:Int):Option Value:=
 match op with
 | .add=>some (.int k (k.wrap (a+b)))
 | .sub=>some (.int k (k.wrap (a-b)))
 | .mul=>some (.int k (k.wrap (a*b)))
 | .eql=>some (.bool (a==b))
 | .neq=>some (.bool (a !=b))
 | .lss=>some (.bool (decide (a<b)))
 | .leq=>some (.bool (decide (a≤b)))
 | .gtr=>some (.bool (decide (a>b)))
 | .geq=>some (.bool (decide (a≥b)))
 |_=>none
theorem aAr (hdn:∀k,o.dst=some k→k<X.n) (op:BinOp) (t u:TypeId) (x y:Operand) (ho:o.op= .binOp op t x y u) (k:IntKind) (a b:Int) (hx:opd tm x= .v (.int k a)) (hy:opd tm y= .v (.int k b))
  (r:Value) (hr:aHp op k a b=some r):bG X E.P o tm rs (.v r) []:=
 bM hdn r fun ac w c hp h=>by
  have hx1:=h x
  have hy1:=h y
  rw [hx]at hx1
  rw [hy]at hy1
  simp only [Sv.ok]at hx1 hy1
  cases op<;>simp [aHp]at hr<;>subst hr<;>simp [execOp,ho,hx1,hy1,eqGuard,binOp,Op.intArith,Op.intCmp]<;>rfl
theorem aEn (hdn:∀k,o.dst=some k→k<X.n) (t u:TypeId) (x y:Operand) (ho:o.op= .binOp .quo t x y u) (k:IntKind) (a b:Int) (hx:opd tm x= .v (.int k a)) (hy:opd tm y= .v (.int k b)) (hb:b≠0):
  bG X E.P o tm rs (.v (.int k (k.wrap (a.tdiv b)))) []:=
 bM hdn _ fun ac w c hp h=>by
  have hx1:=h x
  have hy1:=h y
  rw [hx]at hx1
  rw [hy]at hy1
  simp only [Sv.ok]at hx1 hy1
  simp [execOp,ho,hx1,hy1,eqGuard,binOp,Op.intDiv,hb]
theorem aK8 (hdn:∀k,o.dst=some k→k<X.n) (t u:TypeId) (x y:Operand) (ho:o.op= .binOp .rem t x y u) (k:IntKind) (a b:Int) (hx:opd tm x= .v (.int k a)) (hy:opd tm y= .v (.int k b)) (hb:b≠0):
  bG X E.P o tm rs (.v (.int k (a.tmod b))) []:=
 bM hdn _ fun ac w c hp h=>by
  have hx1:=h x
  have hy1:=h y
  rw [hx]at hx1
  rw [hy]at hy1
  simp only [Sv.ok]at hx1 hy1
  simp [execOp,ho,hx1,hy1,eqGuard,binOp,Op.intDiv,hb]
theorem aK7 (hdn:∀k,o.dst=some k→k<X.n) (t:TypeId) (x:Operand) (ho:o.op= .unOp .not t x) (b:Bool) (hx:opd tm x= .v (.bool b)):bG X E.P o tm rs (.v (.bool !b)) []:=
 bM hdn _ fun ac w c hp h=>by
  have hx1:=h x
  rw [hx]at hx1
  simp only [Sv.ok]at hx1
  simp [execOp,ho,hx1,Op.unary]
theorem aK6 (hdn:∀k,o.dst=some k→k<X.n) (t:TypeId) (x:Operand) (ho:o.op= .unOp .neg t x) (k:IntKind) (n:Int) (hx:opd tm x= .v (.int k n)):bG X E.P o tm rs (.v (.int k (k.wrap (0-n)))) []:=
 bM hdn _ fun ac w c hp h=>by
  have hx1:=h x
  rw [hx]at hx1
  simp only [Sv.ok]at hx1
  simp [execOp,ho,hx1,Op.unary,Op.intArith]
theorem aEm (hdn:∀k,o.dst=some k→k<X.n) (x y z:Operand) (ho:o.op= .pick x y z) (hx:opd tm x= .v (.bool true)):bG X E.P o tm rs (opd tm y) []:=
 aY hdn fun ac w c hp h=>by
  have hx1:=h x
  rw [hx]at hx1
  simp only [Sv.ok]at hx1
  exact⟨ac.eval y,by simp [execOp,ho,hx1,asBool],h y⟩
theorem aEl (hdn:∀k,o.dst=some k→k<X.n) (x y z:Operand) (ho:o.op= .pick x y z) (hx:opd tm x= .v (.bool false)):bG X E.P o tm rs (opd tm z) []:=
 aY hdn fun ac w c hp h=>by
  have hx1:=h x
  rw [hx]at hx1
  simp only [Sv.ok]at hx1
  exact⟨ac.eval z,by simp [execOp,ho,hx1,asBool],h z⟩
theorem aCI (hdn:∀k,o.dst=some k→k<X.n) (x:Operand) (i:Nat) (ho:o.op= .extract x i) (l:List Sv) (hx:opd tm x= .tup l) (s:Sv) (hs:l[i]? =some s):bG X E.P o tm rs s []:=
 aY hdn fun ac w c hp h=>by
  have hx1:=h x
  rw [hx]at hx1
  simp only [Sv.ok]at hx1
  obtain⟨vs,e1,e2⟩:=hx1
  obtain⟨v,h1,h2⟩:=Sv.okL.get e2 hs
  exact⟨v,by simp [execOp,ho,e1,Instr.extract,h1],h2⟩
/-! ### len -/
theorem dB {t ty e:TypeId} {esz eby:Nat} {ez:List Value} (hk:(E.ti t).k= .sli e esz eby ez) (b:Option Addr) (n cap:Nat) (w:World):
  (Builtin.len_ #[t] ty #[.slice b n cap]).run E.P w= .ok (.int .i64 n) w:=by
 have:=E.ok t
 simp only [aR,hk]at this
 simp [Builtin.len_,run_underlying this.2.1,goInt]
theorem aCJ (hdn:∀k,o.dst=some k→k<X.n) (t:TypeId) (x:Operand) (ho:o.op= .call {callee:= .builtin .len,args:= #[x],argTypes:= #[t]}) (i:Nat) (hx:opd tm x= .sl i)
  (e:TypeId) (esz eby:Nat) (ez:List Value) (hk:(E.ti t).k= .sli e esz eby ez) (cv:Nat) (df:Dt) (cs:List Dt) (hr:rs i=⟨cv, .arr (.sl esz df cs)⟩) (n:Nat) (hn:n*esz=cs.length):
  bG X E.P o tm rs (.v (.int .i64 n)) []:=
 bM hdn _ fun ac w c hp h=>by
  have hx1:=h x
  rw [hx]at hx1
  simp only [Sv.ok]at hx1
  have h2:=hp.res i
  rw [hr]at h2
  obtain⟨h3,h4⟩:=h2
  simp only [OwV]at h3
  rcases h3.2 with⟨e1,rfl⟩|⟨g,m,cap,cur,e',e1,e2,_⟩
  ·have hn0:n=0:=Nat.eq_of_mul_eq_mul_right h3.1 (by simpa using hn)
   subst hn0
   simp [execOp,ho,resolve,invoke,builtin,hx1.2,e1,dB hk]
  ·have hm:m=n:=Nat.eq_of_mul_eq_mul_right h3.1 (by omega)
   subst hm
   simp [execOp,ho,resolve,invoke,builtin,hx1.2,e1,dB hk]
theorem aCK (hdn:∀k,o.dst=some k→k<X.n) (t:TypeId) (x:Operand) (ho:o.op= .call {callee:= .builtin .len,args:= #[x],argTypes:= #[t]}) (ts:List (Nat×Nat)) (df:Dt) (cs:List Dt)
  (e:TypeId) (esz eby:Nat) (ez:List Value) (hk:(E.ti t).k= .sli e esz eby ez) (hx:opd tm x= .bor ts (.sl esz df cs)) (htv:gI rs ts) (n:Nat) (hn:n*esz=cs.length):
  bG X E.P o tm rs (.v (.int .i64 n)) []:=
 bM hdn _ fun ac w c hp h=>by
  have hx1:=h x
  rw [hx]at hx1
  simp only [Sv.ok]at hx1
  have h3:=hx1.2.2 htv
  simp only [RdV]at h3
  rcases h3.2 with⟨e1,rfl⟩|⟨g,off,sp,m,cap,vs,e1,e2,_,_,e5,e6,e7⟩
  ·have hn0:n=0:=Nat.eq_of_mul_eq_mul_right h3.1 (by simpa using hn)
   subst hn0
   simp [execOp,ho,resolve,invoke,builtin,e1,dB hk]
  ·have hm:m=n:=Nat.eq_of_mul_eq_mul_right h3.1 (by omega)
   subst hm
   simp [execOp,ho,resolve,invoke,builtin,e1,dB hk]
theorem aCL (hdn:∀k,o.dst=some k→k<X.n) (t:TypeId) (x:Operand) (ho:o.op= .call {callee:= .builtin .len,args:= #[x],argTypes:= #[t]}) (i n:Nat) (hx:opd tm x= .bsl i n)
  (e:TypeId) (esz eby:Nat) (ez:List Value) (hk:(E.ti t).k= .sli e esz eby ez):bG X E.P o tm rs (.v (.int .i64 n)) []:=
 bM hdn _ fun ac w c hp h=>by
  have hx1:=h x
  rw [hx]at hx1
  simp only [Sv.ok]at hx1
  simp [execOp,ho,resolve,invoke,builtin,hx1.2,dB hk]
theorem aFG (hdn:∀k,o.dst=some k→k<X.n) (t:TypeId) (x:Operand) (ho:o.op= .call {callee:= .builtin .len,args:= #[x],argTypes:= #[t]}) (b:Option Addr) (n cap:Nat) (hx:opd tm x= .v (.slice b n cap))
  (e:TypeId) (esz eby:Nat) (ez:List Value) (hk:(E.ti t).k= .sli e esz eby ez):bG X E.P o tm rs (.v (.int .i64 n)) []:=
 bM hdn _ fun ac w c hp h=>by
  have hx1:=h x
  rw [hx]at hx1
  simp only [Sv.ok]at hx1
  simp [execOp,ho,resolve,invoke,builtin,hx1,dB hk]
theorem aCN (hdn:∀k,o.dst=some k→k<X.n) (t:TypeId) (x:Operand) (ho:o.op= .call {callee:= .builtin .len,args:= #[x],argTypes:= #[t]}) (s:ByteArray) (hx:opd tm x= .v (.string s))
  (hk:(E.ti t).k= .strk):bG X E.P o tm rs (.v (.int .i64 s.size)) []:=
 bM hdn _ fun ac w c hp h=>by
  have hx1:=h x
  rw [hx]at hx1
  simp only [Sv.ok]at hx1
  have:=E.ok t
  simp only [aR,hk]at this
  simp [execOp,ho,resolve,invoke,builtin,hx1,Builtin.len_,run_underlying this.2,goInt]
/-! ### A field of a struct's value; a function value; a conversion between integers -/
theorem aA2 (hdn:∀k,o.dst=some k→k<X.n) (f:FuncId) (caps:List Operand) (ho:o.op= .makeFunc (.func f) #[] caps.toArray):bG X E.P o tm rs (.fn f (caps.map (opd tm))) []:=
 aY hdn fun ac w c hp h=>by
  refine⟨.func (.func f) #[] (caps.map ac.eval).toArray,by simp [execOp,ho,Instr.makeFunc],?_⟩
  simp only [Sv.ok]
  refine⟨_,rfl,?_⟩
  clear ho
  induction caps with
  |nil=>simp [Sv.okL]
  |cons x r ih=>simp only [List.map_cons,Sv.okL];exact⟨_,_,rfl,h x,ih⟩
end
end Go.Eng
end
section
namespace Go.Eng
open Go
def Sv.one:Sv→Bool
 | .dead=>false
 | .v x=>x.oneCell'
 | .agg _=>false
 | .tup _=>false
 |_=>true
def Sv.cells:Sv→List Sv
 | .agg l=>l
 |s=>[s]
theorem Sv.one_ok {w:World} {S:Nat→Prop} {c:Nat→Cn} {rs:Nat→Rs} (h1:∀i,(c i).hdr.oneCell'=true):∀{s:Sv} {u:Value},s.one=true→s.ok w S c rs u→u.oneCell'=true
 | .dead,_,h,_=>by simp [Sv.one]at h
 | .v x,u,h,k=>by simp [Sv.ok]at k;subst k;simpa [Sv.one]using h
 | .bor ..,u,_,k=>by simp only [Sv.ok]at k;exact k.2.1
 | .bptr ..,u,_,k=>by simp only [Sv.ok]at k;exact k.2.1
 | .sl i,u,_,k=>by simp only [Sv.ok]at k;rw [k.2];exact h1 i
 | .ptr ..,u,_,k=>by simp only [Sv.ok]at k;rw [k.2];rfl
 | .bsl ..,u,_,k=>by simp only [Sv.ok]at k;rw [k.2];rfl
 | .agg _,_,h,_=>by simp [Sv.one]at h
 | .tup _,_,h,_=>by simp [Sv.one]at h
 | .fn ..,u,_,k=>by simp only [Sv.ok]at k;obtain⟨vs,k,_⟩:=k;rw [k];rfl
theorem Value.cells_one {u:Value} (h:u.oneCell'=true):u.cells= #[u]:=by
 cases u<;>simp_all [Value.oneCell',Value.cells]
theorem Sv.one_okL {w:World} {S:Nat→Prop} {c:Nat→Cn} {rs:Nat→Rs} (h1:∀i,(c i).hdr.oneCell'=true):∀{l:List Sv} {us:List Value},l.all Sv.one=true→Sv.okL w S c rs l us→∀u∈us,u.oneCell'=true
 |[],us,_,k=>by simp [Sv.okL]at k;simp [k]
 |s::l,us,h,k=>by
  simp only [Sv.okL]at k
  obtain⟨x,r,rfl,k1,k2⟩:=k
  simp only [List.all_cons,Bool.and_eq_true]at h
  intro u hu
  simp at hu
  rcases hu with rfl|hu
  ·exact Sv.one_ok h1 h.1 k1
  ·exact Sv.one_okL h1 h.2 k2 u hu
theorem Sv.cells_ok {w:World} {S:Nat→Prop} {c:Nat→Cn} {rs:Nat→Rs} (h1:∀i,(c i).hdr.oneCell'=true) {s:Sv} {u:Value} (hs:s.cells.all Sv.one=true) (k:s.ok w S c rs u):
  Sv.okL w S c rs s.cells u.cells.toList∧∀x∈u.cells.toList,x.oneCell'=true:=by
 have key:Sv.okL w S c rs s.cells u.cells.toList:=by
  cases s with
  |agg l=>
   simp only [Sv.ok]at k
   obtain⟨vs,rfl,k⟩:=k
   simpa [Sv.cells,Value.cells]using k
  |_=>
   have h2:=Sv.one_ok h1 (by simpa [Sv.cells]using hs) k
   rw [Value.cells_one h2]
   simp only [Sv.cells,Sv.okL]
   exact⟨u,[],rfl,k,rfl⟩
 exact⟨key,Sv.one_okL h1 hs key⟩
section
variable {X:Cx} {E:Env} {o:Oper} {tm:Nat→Sv} {rs:Nat→Rs}
theorem xA {w w':World} {c:Nat→Cn} (hp:Hp X.w0 X.U X.S c rs w) (i:Nat) (hu:rs i=⟨0, .gone⟩) (n:Cn) (k:Rk)
  (h1:w'.os=w.os) (h2:w'.tape=w.tape) (h3:w'.output=w.output) (h4:w.heap.size≤w'.heap.size) (h5:Agree (fun b=>b<w.heap.size) w w')
  (h6:∀b,n.fp b→w.heap.size≤b∧b<w'.heap.size) (h7:n.hdr.oneCell'=true) (hk:Ext X.S w w' c (upd c i n) rs (upd rs i ⟨1,k⟩)→k.ok w' X.S (upd c i n) (upd rs i ⟨1,k⟩) n):
  Hp X.w0 X.U X.S (upd c i n) (upd rs i ⟨1,k⟩) w'∧Ext X.S w w' c (upd c i n) rs (upd rs i ⟨1,k⟩):=by
 have hne:∀j,1≤(rs j).cv→j≠i:=fun j hj e=>by subst e;rw [hu]at hj;simp at hj
 have hold:∀j b,(c j).fp b→b<w.heap.size:=hp.flt
 have hx:Ext X.S w w' c (upd c i n) rs (upd rs i ⟨1,k⟩):=by
  refine⟨fun j=>?_,h5.mono fun b hb=>?_,fun j hj=>by rw [aO _ _ (hne j hj)];exact⟨rfl,rfl⟩,fun j hj _ ha=>?_⟩
  ·by_cases e:j=i
   ·subst e;rw [hu];simp
   ·rw [aO _ _ e];exact Nat.le_refl _
  ·exact Nat.lt_of_lt_of_le (hp.ult b (hp.sub b hb)) hp.size
  ·rw [aO _ _ (hne j hj)]at ha⊢
   exact⟨ha,fun _ h=>h,h5.mono fun b hb=>hold j b hb⟩
 refine⟨?_,hx⟩
 refine⟨h1.trans hp.os,h2.trans hp.tape,h3.trans hp.output,Nat.le_trans hp.size h4,?_,hp.sub,hp.ult,fun j=>?_,fun j b hb=>?_,fun j b hb=>?_,fun j l b hjl hj hl=>?_,fun j=>?_⟩
 ·exact hp.unch.trans (h5.mono fun b hb=>Nat.lt_of_lt_of_le (hp.ult b hb) hp.size)
 ·by_cases e:j=i
  ·subst e;rw [upd_same,upd_same];exact hk hx
  ·rw [aO _ _ e,aO _ _ e]
   exact Rk.ok_ext hx (h5.mono fun b hb=>hold j b hb) _ (hp.res j)
 ·by_cases e:j=i
  ·subst e;rw [upd_same]at hb;exact(h6 b hb).2
  ·rw [aO _ _ e]at hb;exact Nat.lt_of_lt_of_le (hold j b hb) h4
 ·by_cases e:j=i
  ·subst e;rw [upd_same]at hb
   intro hU
   have:=hp.ult b hU
   have:=(h6 b hb).1
   have:=hp.size
   omega
  ·rw [aO _ _ e]at hb;exact hp.fu j b hb
 ·by_cases e:j=i
  ·subst e
   rw [upd_same]at hj
   rw [aO _ _ (Ne.symm hjl)]at hl
   have:=(h6 b hj).1
   have:=hold l b hl
   omega
  ·rw [aO _ _ e]at hj
   by_cases e':l=i
   ·subst e'
    rw [upd_same]at hl
    have:=(h6 b hl).1
    have:=hold j b hj
    omega
   ·rw [aO _ _ e']at hl
    exact hp.dis j l b hjl hj hl
 ·by_cases e:j=i
  ·subst e;rw [upd_same];exact h7
  ·rw [aO _ _ e];exact hp.one j
theorem kX (w:World) (ob:Obj):Agree (fun b=>b<w.heap.size) w (w.alloc ob):=fun b hb=>Go.RowKit.Below.heap_alloc w ob b hb
theorem aCq {w:World} {c:Nat→Cn} (hp:Hp X.w0 X.U X.S c rs w) (i:Nat) (hu:rs i=⟨0, .gone⟩) (cells:List Sv) (us:List Value) (e:TypeId) (h:Sv.okL w X.S c rs cells us):
  Hp X.w0 X.U X.S (upd c i ⟨w.heap.size, .slice none 0 0,fun b=>b=w.heap.size⟩) (upd rs i ⟨1, .box cells⟩) (w.alloc (.cells us.toArray e))∧
  Ext X.S w (w.alloc (.cells us.toArray e)) c (upd c i ⟨w.heap.size, .slice none 0 0,fun b=>b=w.heap.size⟩) rs (upd rs i ⟨1, .box cells⟩):=by
 refine xA hp i hu _ _ rfl rfl rfl (by simp) (kX w _) (fun b hb=>?_) rfl (fun hx=>?_)
 ·have hb':b=w.heap.size:=hb
  subst hb';simp
 ·exact⟨rfl,us.toArray,e,heap_alloc_new w _,by simpa using Sv.okL_ext hx _ _ h⟩
theorem aK5 (hdn:∀k,o.dst=some k→k<X.n) (t:TypeId) (x:Operand) (ho:o.op= .box t x) (hs:(opd tm x).cells.all Sv.one=true) (i:Nat) (hu:rs i=⟨0, .gone⟩):
  bG X E.P o tm rs (.ptr i 0) [(i,⟨1, .box (opd tm x).cells⟩)]:=by
 refine SStep0.inn ?_
 rintro a w K Q ⟨hd,hn,c,hp,ht,hpin⟩ hK
 have h1:=Sv.cells_ok hp.one hs (bX ht x)
 obtain⟨hp',hx⟩:=aCq hp i hu _ _ t h1.1
 unfold Oper.wp
 have hrun:(execOp a.eval o).run E.P w= .ok (.value (.pointer (some ⟨w.heap.size,0,none⟩))) (w.alloc (.cells (a.eval x).cells.toList.toArray t)):=by
  simp [execOp,ho,Instr.box,newVar,newRow,newObj,Sem.run]
 rw [hrun]
 refine hK _ _ (bO hd hn ht hpin hx hp' hdn ?_)
 simp [Sv.ok,upd_same]
theorem aFE (hdn:∀k,o.dst=some k→k<X.n) (t:TypeId) (ho:o.op= .alloc t) (hk:(E.ti t).known=true) (i:Nat) (hu:rs i=⟨0, .gone⟩):
  bG X E.P o tm rs (.ptr i 0) [(i,⟨1, .box ((E.ti t).z.map Sv.v)⟩)]:=by
 refine SStep0.inn ?_
 rintro a w K Q ⟨hd,hn,c,hp,ht,hpin⟩ hK
 have h1:Sv.okL w X.S c rs ((E.ti t).z.map Sv.v) (E.ti t).z:=by
  generalize (E.ti t).z=l
  induction l with
  |nil=>simp [Sv.okL]
  |cons x r ih=>simp only [List.map_cons,Sv.okL];exact⟨x,r,rfl,by simp [Sv.ok],ih⟩
 obtain⟨hp',hx⟩:=aCq hp i hu _ _ t h1
 obtain⟨inf,zv,g1,g2,g3,g4,g5⟩:=E.info t hk
 unfold Oper.wp
 have hrun:(execOp a.eval o).run E.P w= .ok (.value (.pointer (some ⟨w.heap.size,0,none⟩))) (w.alloc (.cells (E.ti t).z.toArray t)):=by
  rw [←g5]
  simp [execOp,ho,Instr.alloc,zeroValue,typeInfo,g1,g4,newVar,newRow,newObj,Sem.run]
 rw [hrun]
 refine hK _ _ (bO hd hn ht hpin hx hp' hdn ?_)
 simp [Sv.ok,upd_same]
/-! ### A change of one resource in its own blocks -/
theorem iB {w w':World} {c:Nat→Cn} (hp:Hp X.w0 X.U X.S c rs w) (i:Nat) (h1c:1≤(rs i).cv) (cv':Nat) (hcv:(rs i).cv<cv') (k:Rk)
  (h1:w'.os=w.os) (h2:w'.tape=w.tape) (h3:w'.output=w.output) (h4:w'.heap.size=w.heap.size) (h5:Agree (fun b=>¬(c i).fp b) w w')
  (hk:Ext X.S w w' c c rs (upd rs i ⟨cv',k⟩)→k.ok w' X.S c (upd rs i ⟨cv',k⟩) (c i)):
  Hp X.w0 X.U X.S c (upd rs i ⟨cv',k⟩) w'∧Ext X.S w w' c c rs (upd rs i ⟨cv',k⟩):=by
 have hag:∀j,j≠i→Agree (c j).fp w w':=fun j hj=>h5.mono fun b hb hb'=>hp.dis j i b hj hb hb'
 have hx:Ext X.S w w' c c rs (upd rs i ⟨cv',k⟩):=by
  refine⟨fun j=>?_,h5.mono fun b hb hb'=>hp.fu i b hb' (hp.sub b hb),fun _ _=>⟨rfl,rfl⟩,fun j hj he ha=>?_⟩
  ·by_cases e:j=i
   ·subst e;rw [upd_same];exact Nat.le_of_lt hcv
   ·rw [aO _ _ e];exact Nat.le_refl _
  ·by_cases e:j=i
   ·subst e;rw [upd_same]at he;simp at he;omega
   ·rw [aO _ _ e]at ha
    exact⟨ha,fun _ h=>h,hag j e⟩
 refine⟨?_,hx⟩
 refine⟨h1.trans hp.os,h2.trans hp.tape,h3.trans hp.output,by rw [h4];exact hp.size,hp.unch.trans (h5.mono fun b hb hb'=>hp.fu i b hb' hb),hp.sub,hp.ult,fun j=>?_,by rw [h4];exact hp.flt,hp.fu,hp.dis,hp.one⟩
 by_cases e:j=i
 ·subst e;rw [upd_same];exact hk hx
 ·rw [aO _ _ e];exact Rk.ok_ext hx (hag j e) _ (hp.res j)
def putAt {α:Type} (cs:List α) (p:Nat) (l:List α):List α:=cs.take p++l++cs.drop (p+l.length)
theorem dU {t:TypeId} (hk:(E.ti t).known=true) {w:World} {g p:Nat} {cur:Array Value} {e:TypeId} (hg:w.heap[g]? =some (.cells cur e (0,0))) {v:Value} (hsz:v.cells.toList.length=(E.ti t).size)
  (hfit:p+v.cells.toList.length≤cur.size) (h1:∀x∈v.cells.toList,x.oneCell'=true):
  (Instr.storeAt t (.pointer (some ⟨g,p,none⟩)) v).run E.P w= .ok () (w.setRow g (putAt cur.toList p v.cells.toList).toArray):=by
 have hst:=run_storeCells_at E.P g p e v.cells.toList 0 cur w hg (by simpa using hfit) h1
 simp only [Nat.add_zero]at hst
 have hsz':v.cells.size=(E.ti t).size:=by simpa using hsz
 simp [Instr.storeAt,Instr.sureAddr,storeVar,run_sizeOf E t w hk,hsz',hst,putAt]
theorem Sv.okL.putAt {w:World} {S:Nat→Prop} {c:Nat→Cn} {l m:List Sv} {us vs:List Value} (p:Nat) (h:Sv.okL w S c rs l us) (k:Sv.okL w S c rs m vs):Sv.okL w S c rs (putAt l p m) (putAt us p vs):=by
 have hl:=h.length
 have hm:=k.length
 have h1:Sv.okL w S c rs (l.take p) (us.take p):=by simpa using Sv.okL.slice l us 0 p h
 have h2:Sv.okL w S c rs (l.drop (p+m.length)) (us.drop (p+m.length)):=by
  have:=Sv.okL.slice l us (p+m.length) l.length h
  rwa [List.take_of_length_le (by simp),List.take_of_length_le (by simp [hl])]at this
 unfold Eng.putAt
 rw [hm]
 exact(h1.append k).append h2
theorem dQ {w:World} {g:Nat} {R:Nat→Prop} (cs:Array Value) (h:¬R g):Agree R w (w.setRow g cs):=
 fun b hb=>setRow_other w g b cs fun e=>h (by rw [←e];exact hb)
theorem aAy (hdn:o.dst=none) (t:TypeId) (x y:Operand) (ho:o.op= .store t x y) (i p:Nat) (hx:opd tm x= .ptr i p) (hk:(E.ti t).known=true)
  (cv:Nat) (cells:List Sv) (hr:rs i=⟨cv, .box cells⟩) (hs:(opd tm y).cells.all Sv.one=true) (hsz:(opd tm y).cells.length=(E.ti t).size) (hfit:p+(opd tm y).cells.length≤cells.length):
  bG X E.P o tm rs .dead [(i,⟨cv+1, .box (putAt cells p (opd tm y).cells)⟩)]:=by
 refine SStep0.inn ?_
 rintro a w K Q ⟨hd,hn,c,hp,ht,hpin⟩ hK
 have hx1:=bX ht x
 rw [hx]at hx1
 simp only [Sv.ok]at hx1
 have h2:=hp.res i
 rw [hr]at h2
 obtain⟨hb,cur,e,h3,h4⟩:=h2
 have h1:=Sv.cells_ok hp.one hs (bX ht y)
 have hl1:=Sv.okL.length h1.1
 have hl4:=Sv.okL.length h4
 have hc1:1≤(rs i).cv:=hx1.1
 have hrun:=dU (E:=E) hk h3 (v:=a.eval y) (p:=p) (by rw [hl1];exact hsz) (by rw [hl1];simp at hl4;omega) h1.2
 obtain⟨hp',hx'⟩:=iB (w':=w.setRow (c i).blk (putAt cur.toList p (a.eval y).cells.toList).toArray) hp i hc1 (cv+1) (by rw [hr];simp) (.box (putAt cells p (opd tm y).cells)) rfl rfl rfl (by simp) (dQ _ (by simpa using hb)) (fun hx'=>
  ⟨hb,_,e,setRow_heap w _ cur _ e (0,0) h3,by
   exact Sv.okL.putAt p (Sv.okL_ext hx' _ _ h4) (Sv.okL_ext hx' _ _ h1.1)⟩)
 unfold Oper.wp
 have hrun2:(execOp a.eval o).run E.P w= .ok .skip (w.setRow (c i).blk (putAt cur.toList p (a.eval y).cells.toList).toArray):=by
  simp [execOp,ho,hx1.2,hrun]
 rw [hrun2]
 exact hK _ _ (bO hd hn ht hpin hx' hp' (by simp [hdn]) (by simp [Sv.ok]))
theorem uL (hdn:o.dst=none) (t:TypeId) (x y:Operand) (ho:o.op= .store t x y) (i p:Nat) (hx:opd tm x= .ptr i p) (hk:(E.ti t).known=true) (hsz:(E.ti t).size=1)
  (cv sz:Nat) (df:Dt) (cs:List Dt) (hr:rs i=⟨cv, .arr (.sl sz df cs)⟩) (v:Value) (hy:opd tm y= .v v) (hv:v.oneCell'=true) (hfit:p<cs.length):
  bG X E.P o tm rs .dead [(i,⟨cv+1, .arr (.sl sz df (cs.set p (.v v)))⟩)]:=by
 refine SStep0.inn ?_
 rintro a w K Q ⟨hd,hn,c,hp,ht,hpin⟩ hK
 have hx1:=bX ht x
 rw [hx]at hx1
 simp only [Sv.ok]at hx1
 have hy1:=bX ht y
 rw [hy]at hy1
 simp only [Sv.ok]at hy1
 have h2:=hp.res i
 rw [hr]at h2
 obtain⟨h3,h4⟩:=h2
 simp only [OwV]at h3
 obtain⟨hsz0,h3⟩:=h3
 rcases h3 with⟨_,rfl⟩|⟨g,m,cap,cur,e',e1,e2,e3,e4,e5,e6,e7,e8⟩
 ·simp at hfit
 ·have h5:=h4 _ _ _ e1
  simp at h5
  subst h5
  have hlen:cs.length≤cur.size:=by
   rw [←e2,e7];exact Nat.mul_le_mul_right _ e3
  have hcl:v.cells.toList=[v]:=by rw [Value.cells_one hv]
  have hrun:=dU (E:=E) hk e6 (v:=v) (p:=p) (by rw [hcl,hsz];rfl) (by rw [hcl];simp;omega) (by rw [hcl];simpa using hv)
  have hset:putAt cur.toList p v.cells.toList=cur.toList.set p v:=by
   rw [hcl,putAt]
   have hp1:p<cur.toList.length:=by simp;omega
   rw [List.set_eq_take_append_cons_drop]
   simp only [hp1,if_true,List.length_singleton]
   simp
  rw [hset]at hrun
  have hc1:1≤(rs i).cv:=hx1.1
  obtain⟨hp',hx'⟩:=iB (w':=w.setRow (c i).blk (cur.toList.set p v).toArray) hp i hc1 (cv+1) (by rw [hr];simp) (.arr (.sl sz df (cs.set p (.v v)))) rfl rfl rfl (by simp) (dQ _ (by simpa using e5)) (fun hx'=>by
   refine⟨?_,h4⟩
   simp only [OwV]
   refine⟨hsz0, .inr ⟨(c i).blk,m,cap,_,e',e1,by simpa using e2,e3,e4,e5,setRow_heap w _ cur _ e' (0,0) e6,by simpa using e7,?_⟩⟩
   have h9:OwL (w.setRow (c i).blk (cur.toList.set p v).toArray) (fun b=>(c i).fp b∧b≠(c i).blk) cs (cur.toList.take cs.length):=
    OwL.frame (dQ _ (by simp)) _ _ e8
   have h10:=OwL.set (k:=p) (d:= .v v) (x:=v) (G:=fun _=>False) (H:=fun b=>(c i).fp b∧b≠(c i).blk) h9 (by simp [OwV]) (fun _ h=>h) (fun _ h=>h.elim) (fun _ _ h=>h)
   simp only [List.length_set]
   show OwL _ _ _ ((cur.toList.set p v).take cs.length)
   rwa [List.take_set])
  unfold Oper.wp
  have hrun2:(execOp a.eval o).run E.P w= .ok .skip (w.setRow (c i).blk (cur.toList.set p v).toArray):=by
   simp [execOp,ho,hx1.2,hy1,hrun]
  rw [hrun2]
  exact hK _ _ (bO hd hn ht hpin hx' hp' (by simp [hdn]) (by simp [Sv.ok]))
end
end Go.Eng
end
section
namespace Go.Eng
open Go
def bP (rs:Nat→Rs) (J:List Nat):List (Nat×Rs):=J.map fun j=>(j,⟨(rs j).cv, .gone⟩)
theorem aFM (rs rs0:Nat→Rs) (J:List Nat) (i:Nat):dC rs (bP rs0 J) i=if i∈J then⟨(rs0 i).cv, .gone⟩else rs i:=by
 induction J with
 |nil=>simp [bP,dC]
 |cons j J ih=>
  simp only [bP,List.map_cons,dC,upd]at ih⊢
  by_cases e:i=j
  ·subst e;simp
  ·simp [e,ih]
section
variable {X:Cx} {E:Env} {o:Oper} {tm:Nat→Sv} {rs:Nat→Rs}
def cnU (c:Nat→Cn) (t:Nat) (n:Cn) (J:List Nat):Nat→Cn:=fun i=>if i=t then n else if i∈J then⟨(c i).blk,(c i).hdr,fun _=>False⟩else c i
theorem vG {w w':World} {c:Nat→Cn} (hp:Hp X.w0 X.U X.S c rs w) (t:Nat) (n:Cn) (cv':Nat) (k:Rk) (J:List Nat) (hJ:t∉J)
  (hcv:(rs t).cv<cv') (ht:rs t=⟨0, .gone⟩∨(n.blk=(c t).blk∧n.hdr=(c t).hdr))
  (h1:w'.os=w.os) (h2:w'.tape=w.tape) (h3:w'.output=w.output) (h4:w.heap.size≤w'.heap.size)
  (h5:Agree (fun b=>b<w.heap.size∧¬(c t).fp b∧∀j∈J,¬(c j).fp b) w w')
  (h6:∀b,n.fp b→(c t).fp b∨(∃j∈J,(c j).fp b)∨(w.heap.size≤b∧b<w'.heap.size)) (h7:n.hdr.oneCell'=true)
  (hk:Ext X.S w w' c (cnU c t n J) rs (upd (dC rs (bP rs J)) t ⟨cv',k⟩)→k.ok w' X.S (cnU c t n J) (upd (dC rs (bP rs J)) t ⟨cv',k⟩) n):
  Hp X.w0 X.U X.S (cnU c t n J) (upd (dC rs (bP rs J)) t ⟨cv',k⟩) w'∧Ext X.S w w' c (cnU c t n J) rs (upd (dC rs (bP rs J)) t ⟨cv',k⟩):=by
 have hold:∀j b,(c j).fp b→b<w.heap.size:=hp.flt
 have hrs:∀i,i≠t→upd (dC rs (bP rs J)) t ⟨cv',k⟩ i=if i∈J then⟨(rs i).cv, .gone⟩else rs i:=fun i hi=>by
  rw [aO _ _ hi,aFM]
 have hagU:Agree X.U w w':=h5.mono fun b hb=>⟨Nat.lt_of_lt_of_le (hp.ult b hb) hp.size,fun h=>hp.fu t b h hb,fun j _ h=>hp.fu j b h hb⟩
 have hagj:∀j,j≠t→j∉J→Agree (c j).fp w w':=fun j h1 h2=>h5.mono fun b hb=>⟨hold j b hb,fun h=>hp.dis j t b h1 hb h,fun l hl h=>hp.dis j l b (fun e=>h2 (by rw [e];exact hl)) hb h⟩
 have hx:Ext X.S w w' c (cnU c t n J) rs (upd (dC rs (bP rs J)) t ⟨cv',k⟩):=by
  refine⟨fun i=>?_,hagU.mono hp.sub,fun i hi=>?_,fun i hi he ha=>?_⟩
  ·by_cases e:i=t
   ·subst e;rw [upd_same];exact Nat.le_of_lt hcv
   ·rw [hrs i e];split<;>simp
  ·unfold cnU
   by_cases e:i=t
   ·subst e
    rcases ht with ht|ht
    ·rw [ht]at hi;simp at hi
    ·simp [ht.1,ht.2]
   ·by_cases e':i∈J<;>simp [e,e']
  ·by_cases e:i=t
   ·subst e;rw [upd_same]at he;simp at he;omega
   ·rw [hrs i e]at ha
    by_cases e':i∈J
    ·rw [if_pos e']at ha;exact absurd ha (by simp [Rs.alive])
    ·rw [if_neg e']at ha
     refine⟨ha,fun b hb=>?_,hagj i e e'⟩
     simp only [cnU,if_neg e,if_neg e'];exact hb
 refine⟨?_,hx⟩
 refine⟨h1.trans hp.os,h2.trans hp.tape,h3.trans hp.output,Nat.le_trans hp.size h4,hp.unch.trans hagU,hp.sub,hp.ult,fun i=>?_,fun i b hb=>?_,fun i b hb=>?_,fun i j b hij hi hj=>?_,fun i=>?_⟩
 ·by_cases e:i=t
  ·subst e;rw [upd_same];simp only [cnU,if_true];exact hk hx
  ·rw [hrs i e]
   simp only [cnU,if_neg e]
   by_cases e':i∈J
   ·rw [if_pos e',if_pos e'];exact fun b h=>h
   ·rw [if_neg e',if_neg e'];exact Rk.ok_ext hx (hagj i e e') _ (hp.res i)
 ·unfold cnU at hb
  split at hb
  ·rcases h6 b hb with h|⟨j,_,h⟩|h
   ·exact Nat.lt_of_lt_of_le (hold _ b h) h4
   ·exact Nat.lt_of_lt_of_le (hold _ b h) h4
   ·exact h.2
  ·split at hb
   ·exact hb.elim
   ·exact Nat.lt_of_lt_of_le (hold _ b hb) h4
 ·unfold cnU at hb
  split at hb
  ·rcases h6 b hb with h|⟨j,_,h⟩|h
   ·exact hp.fu _ b h
   ·exact hp.fu _ b h
   ·intro hU
    have:=hp.ult b hU
    have:=hp.size
    omega
  ·split at hb
   ·exact hb.elim
   ·exact hp.fu i b hb
 ·have key:∀i,i≠t→(cnU c t n J i).fp b→i∉J∧(c i).fp b:=fun i hi h=>by
   simp only [cnU,if_neg hi]at h
   split at h
   ·exact h.elim
   ·rename_i h';exact⟨h',h⟩
  have key2:∀i,i≠t→(cnU c t n J i).fp b→(cnU c t n J t).fp b→False:=fun i hi h h'=>by
   obtain⟨k1,k2⟩:=key i hi h
   simp only [cnU,if_true]at h'
   rcases h6 b h' with h8|⟨j,hj,h8⟩|h8
   ·exact hp.dis i t b hi k2 h8
   ·exact hp.dis i j b (fun e=>k1 (by rw [e];exact hj)) k2 h8
   ·have:=hold i b k2;omega
  by_cases e:i=t
  ·subst e;exact key2 j (Ne.symm hij) hj hi
  ·by_cases e':j=t
   ·subst e';exact key2 i e hi hj
   ·exact hp.dis i j b hij (key i e hi).2 (key j e' hj).2
 ·unfold cnU
  split
  ·exact h7
  ·split
   ·exact hp.one i
   ·exact hp.one i
def dH (rs:Nat→Rs):List Sv→Option (List Dt×List Nat)
 |[]=>some ([],[])
 | .v x::l=>(dH rs l).map fun p=>(.v x::p.1,p.2)
 | .sl j::l=>match (rs j).k with
  | .arr d=>(dH rs l).map fun p=>(d::p.1,j::p.2)
  |_=>none
 |_::_=>none
theorem aBY {w:World} {c:Nat→Cn} (hp:Hp X.w0 X.U X.S c rs w):∀{l:List Sv} {us:List Value} {ds:List Dt} {J:List Nat},dH rs l=some (ds,J)→J.Nodup→Sv.okL w X.S c rs l us→
  OwL w (fun b=>∃j∈J,(c j).fp b) ds us
 |[],us,ds,J,h,_,k=>by
  simp [dH]at h
  obtain⟨rfl,rfl⟩:=h
  simpa [Sv.okL,OwL]using k
 | .v x::l,us,ds,J,h,hn,k=>by
  simp only [dH,Option.map_eq_some_iff]at h
  obtain⟨⟨ds',J'⟩,h1,h2⟩:=h
  simp at h2
  obtain⟨rfl,rfl⟩:=h2
  simp only [Sv.okL,Sv.ok]at k
  obtain⟨y,r,rfl,rfl,k2⟩:=k
  simp only [OwL,OwV]
  exact⟨y,r,fun _=>False,_,rfl,fun _ h=>h.elim,fun _ h=>h,fun _ h _=>h,rfl,aBY hp h1 hn k2⟩
 | .sl j::l,us,ds,J,h,hn,k=>by
  simp only [dH]at h
  split at h
  ·rename_i d hd
   simp only [Option.map_eq_some_iff]at h
   obtain⟨⟨ds',J'⟩,h1,h2⟩:=h
   simp at h2
   obtain⟨rfl,rfl⟩:=h2
   simp only [Sv.okL,Sv.ok]at k
   obtain⟨y,r,rfl,⟨_,rfl⟩,k2⟩:=k
   have hr:=hp.res j
   rw [hd]at hr
   simp only [OwL]
   have hn2:=List.nodup_cons.1 hn
   refine⟨_,r,(c j).fp,fun b=>∃l∈J',(c l).fp b,rfl,fun b hb=>⟨j,by simp,hb⟩,fun b hb=>?_,fun b hb hb'=>?_,hr.1,aBY hp h1 hn2.2 k2⟩
   ·obtain⟨l,hl,hb⟩:=hb;exact⟨l,by simp [hl],hb⟩
   ·obtain⟨l,hl,hb'⟩:=hb'
    exact hp.dis j l b (fun e=>hn2.1 (by rw [e];exact hl)) hb hb'
  ·cases h
 | .dead::_,_,_,_,h,_,_=>by simp [dH]at h
 | .bor .. ::_,_,_,_,h,_,_=>by simp [dH]at h
 | .bptr .. ::_,_,_,_,h,_,_=>by simp [dH]at h
 | .ptr .. ::_,_,_,_,h,_,_=>by simp [dH]at h
 | .bsl .. ::_,_,_,_,h,_,_=>by simp [dH]at h
 | .agg _::_,_,_,_,h,_,_=>by simp [dH]at h
 | .tup _::_,_,_,_,h,_,_=>by simp [dH]at h
 | .fn .. ::_,_,_,_,h,_,_=>by simp [dH]at h
theorem tH {w:World} {c:Nat→Cn}:∀{l:List Sv} {us:List Value} {ds:List Dt} {J:List Nat},dH rs l=some (ds,J)→Sv.okL w X.S c rs l us→∀j∈J,1≤(rs j).cv
 |[],us,ds,J,h,_=>by simp [dH]at h;simp [h.2]
 | .v x::l,us,ds,J,h,k=>by
  simp only [dH,Option.map_eq_some_iff]at h
  obtain⟨⟨ds',J'⟩,h1,h2⟩:=h
  simp at h2
  obtain⟨rfl,rfl⟩:=h2
  simp only [Sv.okL,Sv.ok]at k
  obtain⟨y,r,rfl,rfl,k2⟩:=k
  exact tH h1 k2
 | .sl j::l,us,ds,J,h,k=>by
  simp only [dH]at h
  split at h
  ·simp only [Option.map_eq_some_iff]at h
   obtain⟨⟨ds',J'⟩,h1,h2⟩:=h
   simp at h2
   obtain⟨rfl,rfl⟩:=h2
   simp only [Sv.okL,Sv.ok]at k
   obtain⟨y,r,rfl,⟨k0,rfl⟩,k2⟩:=k
   intro i hi
   simp at hi
   rcases hi with rfl|hi
   ·exact k0
   ·exact tH h1 k2 i hi
  ·cases h
 | .dead::_,_,_,_,h,_=>by simp [dH]at h
 | .bor .. ::_,_,_,_,h,_=>by simp [dH]at h
 | .bptr .. ::_,_,_,_,h,_=>by simp [dH]at h
 | .ptr .. ::_,_,_,_,h,_=>by simp [dH]at h
 | .bsl .. ::_,_,_,_,h,_=>by simp [dH]at h
 | .agg _::_,_,_,_,h,_=>by simp [dH]at h
 | .tup _::_,_,_,_,h,_=>by simp [dH]at h
 | .fn .. ::_,_,_,_,h,_=>by simp [dH]at h
/-! ### A slice built out of parts -/
theorem yK:∀(vs:List Value) (p q:List Value) (r:List Value),q.length=vs.length→
  (vs.zipIdx p.length).foldl (fun(cs:Array Value) (cj:Value×Nat)=>cs.setIfInBounds cj.2 cj.1) (p++q++r).toArray=(p++vs++r).toArray
 |[],p,q,r,h=>by simp at h;subst h;simp
 |v::vs,p,q,r,h=>by
  cases q with
  |nil=>simp at h
  |cons y q=>
   simp only [List.zipIdx_cons,List.foldl_cons]
   have e:(p++y::q++r).toArray.setIfInBounds p.length v=((p++[v])++q++r).toArray:=by
    apply Array.ext'
    simp
   rw [e]
   have:=yK vs (p++[v]) q r (by simpa using h)
   simp only [List.length_append,List.length_singleton]at this
   rw [this]
   simp
theorem tG {α:Type}:∀(l:List α) (k off:Nat) (init:Array α),
  (l.zipIdx k).foldl (fun(cs:Array α) (cj:α×Nat)=>cs.setIfInBounds (off+cj.2) cj.1) init=(l.zipIdx (off+k)).foldl (fun(cs:Array α) (cj:α×Nat)=>cs.setIfInBounds cj.2 cj.1) init
 |[],_,_,_=>rfl
 |x::l,k,off,init=>by
  simp only [List.zipIdx_cons,List.foldl_cons]
  have:=tG l (k+1) off (init.setIfInBounds (off+k) x)
  rw [this,←Nat.add_assoc]
theorem aDm (sz:Nat):∀(vs:List Value) (k:Nat) (p q:List Value),(∀v∈vs,v.cells.size=sz)→p.length=k*sz→q.length=vs.length*sz→
  Instr.fill (fun i=>some (i*sz,sz)) (p++q).toArray ((vs.zipIdx k).map fun x=>(x.2,x.1))=some (p++vs.flatMap fun v=>v.cells.toList).toArray
 |[],k,p,q,_,_,hq=>by simp at hq;subst hq;simp [Instr.fill]
 |v::vs,k,p,q,hv,hp,hq=>by
  have hv0:v.cells.size=sz:=hv v (by simp)
  simp only [List.zipIdx_cons,List.map_cons,Instr.fill]
  simp only [List.length_cons,Nat.add_mul,Nat.one_mul]at hq
  have hq1:(q.take sz).length=sz:=by simp;omega
  rw [if_neg (by simp [hv0,hp,hq])]
  have e1:v.cells.zipIdx.foldl (fun cs (c,j)=>cs.setIfInBounds (k*sz+j) c) (p++q).toArray=(p++v.cells.toList++q.drop sz).toArray:=by
   rw [←Array.foldl_toList]
   simp only [Array.toList_zipIdx]
   have h2:=tG v.cells.toList 0 (k*sz) (p++q).toArray
   have h3:=yK v.cells.toList p (q.take sz) (q.drop sz) (by rw [hq1];simpa using hv0.symm)
   rw [List.append_assoc,List.take_append_drop]at h3
   rw [Nat.add_zero,←hp]at h2
   rw [hp]at h2 h3
   exact h2.trans h3
  rw [e1]
  have:=aDm sz vs (k+1) (p++v.cells.toList) (q.drop sz) (fun x hx=>hv x (by simp [hx])) (by simp [hp,hv0,Nat.add_mul]) (by simp;omega)
  rw [this]
  simp [List.append_assoc]
theorem rD {t e:TypeId} {esz eby:Nat} {ez:List Value} (hk:(E.ti t).k= .sli e esz eby ez) (vs:List Value) (hv:∀v∈vs,v.cells.size=esz) (hlim:vs.length*esz≤16777216) (w:World):
  (Instr.buildSlice t vs.length ((vs.zipIdx 0).map fun x=>(x.2,x.1)).toArray).run E.P w=
   .ok (.slice (some ⟨w.heap.size,0,none⟩) vs.length vs.length) (w.alloc (.cells (vs.flatMap fun v=>v.cells.toList).toArray e)):=by
 have h:=E.ok t
 simp only [aR,hk]at h
 obtain⟨_,h2,inf,zv,h3,h4,h5,h6,h7⟩:=h
 have hlim':¬(vs.length*esz>2^24):=by simpa using hlim
 have hf:∀A:Array Value,A.size=vs.length*esz→Instr.fill (fun i=>some (i*esz,esz)) A ((vs.zipIdx 0).map fun x=>(x.2,x.1))=some (vs.flatMap fun v=>v.cells.toList).toArray:=fun A hA=>by
  have:=aDm esz vs 0 [] A.toList hv (by simp) (by simpa using hA)
  simpa using this
 by_cases h0:vs.length*esz=0
 ·simp [Instr.buildSlice,run_underlying h2,sizeOf,typeInfo,h3,h4,h0,newRow,newObj]
  rw [hf _ (by simp [h0])]
  simp [Sem.run]
 ·simp [Instr.buildSlice,run_underlying h2,sizeOf,typeInfo,h3,h4,h0,zeroValue,h6,newRow,newObj]
  rw [if_neg (by omega)]
  rw [hf _ (by simp)]
  simp [Sem.run]
end
end Go.Eng
end
section
namespace Go.Eng
open Go
theorem nP {α:Type}:∀(l:List (Nat×α)) (k:Nat),l.map (·.1)=(List.range l.length).map (· +k)→l=((l.map (·.2)).zipIdx k).map fun x=>(x.2,x.1)
 |[],_,_=>rfl
 |(i,x)::l,k,h=>by
  simp only [List.map_cons,List.length_cons,List.range_succ_eq_map,List.map_map]at h
  simp only [List.cons.injEq]at h
  have h2:=nP l (k+1) (by rw [h.2];simp [Function.comp_def,Nat.add_comm,Nat.add_left_comm])
  simp only [List.map_cons,List.zipIdx_cons]
  rw [←h2]
  have:i=k:=by simpa using h.1
  subst this
  rfl
section
variable {X:Cx} {E:Env} {o:Oper} {tm:Nat→Sv} {rs:Nat→Rs}
theorem zD {a:Act} {w:World} {c:Nat→Cn} (hp:Hp X.w0 X.U X.S c rs w) (ht:∀s,(tm s).ok w X.S c rs (a.tmps.getD s undef)) (esz:Nat):∀(xs:List Operand),
  xs.all (fun x=>(opd tm x).cells.length==esz&&(opd tm x).cells.all Sv.one)=true→
  Sv.okL w X.S c rs (xs.flatMap fun x=>(opd tm x).cells) ((xs.map a.eval).flatMap fun v=>v.cells.toList)∧(∀v∈xs.map a.eval,v.cells.size=esz)
 |[],_=>by simp [Sv.okL]
 |x::xs,h=>by
  simp only [List.all_cons,Bool.and_eq_true]at h
  obtain⟨ih1,ih2⟩:=zD hp ht esz xs h.2
  have h1:=Sv.cells_ok hp.one h.1.2 (bX ht x)
  have hl:=Sv.okL.length h1.1
  simp only [List.flatMap_cons,List.map_cons]
  refine⟨h1.1.append ih1,fun v hv=>?_⟩
  simp only [List.mem_cons]at hv
  rcases hv with rfl|hv
  ·have:=h.1.1
   simp at this hl
   omega
  ·exact ih2 v hv
theorem nX {t e:TypeId} {esz eby:Nat} {ez:List Value} (hk:(E.ti t).k= .sli e esz eby ez) (len:Nat) (parts:Array (Nat×Operand)) (hp:parts.toList.map (·.1)=List.range len)
  (a:Act) (hcs:∀v∈(parts.toList.map (·.2)).map a.eval,v.cells.size=esz) (hlim:len*esz≤16777216) (w:World):
  (Instr.buildSlice t len (parts.map fun(i,x)=>(i,a.eval x))).run E.P w=
   .ok (.slice (some ⟨w.heap.size,0,none⟩) len len) (w.alloc (.cells (((parts.toList.map (·.2)).map a.eval).flatMap fun v=>v.cells.toList).toArray e)):=by
 have hlen:len=parts.toList.length:=by have:=congrArg List.length hp;simpa using this.symm
 have h1:=nP (parts.toList.map fun p=>(p.1,a.eval p.2)) 0 (by rw [List.map_map];show parts.toList.map (·.1)=_;rw [hp,hlen];simp)
 have h2:(parts.map fun(i,x)=>(i,a.eval x))=((((parts.toList.map (·.2)).map a.eval).zipIdx 0).map fun x=>(x.2,x.1)).toArray:=by
  apply Array.ext'
  rw [Array.toList_map]
  refine h1.trans ?_
  simp only [List.map_map]
  rfl
 have h3:=rD hk ((parts.toList.map (·.2)).map a.eval) hcs (by simpa [hlen]using hlim) w
 rw [h2,hlen]
 simpa using h3
theorem wD (hdn:∀k,o.dst=some k→k<X.n) (t:TypeId) (len:Nat) (parts:Array (Nat×Operand)) (ho:o.op= .buildSlice t len parts) (hpt:parts.toList.map (·.1)=List.range len)
  (e:TypeId) (esz eby:Nat) (ez:List Value) (hk:(E.ti t).k= .sli e esz eby ez) (h0:0<esz) (hlim:len*esz≤16777216)
  (hc:(parts.toList.map (·.2)).all (fun x=>(opd tm x).cells.length==esz&&(opd tm x).cells.all Sv.one)=true)
  (ds:List Dt) (J:List Nat) (hab:dH rs ((parts.toList.map (·.2)).flatMap fun x=>(opd tm x).cells)=some (ds,J)) (hn:J.Nodup) (i:Nat) (hu:rs i=⟨0, .gone⟩):
  bG X E.P o tm rs (.sl i) ((i,⟨1, .arr (.sl esz (E.ti t).dd ds)⟩)::bP rs J):=by
 refine SStep0.inn ?_
 rintro a w K Q ⟨hd,hnn,c,hp,ht,hpin⟩ hK
 obtain⟨h1,h2⟩:=zD hp ht esz _ hc
 have hrun:=nX hk len parts hpt a h2 hlim w
 have hown:=aBY hp hab hn h1
 have huse:=tH (X:=X) (w:=w) (c:=c) hab h1
 have hiJ:i∉J:=fun hi=>by have:=huse i hi;rw [hu]at this;simp at this
 have hlen:len=(parts.toList.map (·.2)).length:=by have:=congrArg List.length hpt;simpa using this.symm
 have hdl:ds.length=len*esz:=by
  rw [←OwL.length hown,hlen]
  clear hab hown huse h1 hrun hpt ho hlim hlen
  generalize parts.toList.map (·.2)=xs at h2
  induction xs with
  |nil=>simp
  |cons x xs ih=>
   simp only [List.map_cons,List.flatMap_cons,List.length_append,List.length_cons,Nat.add_mul,Nat.one_mul]
   have e1:=h2 (a.eval x) (by simp)
   have e2:=ih (fun v hv=>h2 v (by simp at hv⊢;exact .inr hv))
   rw [e2]
   simp [e1]
   omega
 have hnew:i=i:=rfl
 obtain⟨hp',hx⟩:=vG (w':=w.alloc (.cells (((parts.toList.map (·.2)).map a.eval).flatMap fun v=>v.cells.toList).toArray e)) hp i
  ⟨w.heap.size, .slice (some ⟨w.heap.size,0,none⟩) len len,fun b=>b=w.heap.size∨∃j∈J,(c j).fp b⟩ 1 (.arr (.sl esz (E.ti t).dd ds)) J hiJ (by rw [hu];simp) (.inl hu) rfl rfl rfl (by simp)
  ((kX w _).mono fun b hb=>hb.1) (fun b hb=>hb.elim (fun e=>by subst e;exact .inr (.inr (by simp))) (fun h=> .inr (.inl h))) rfl (fun hx=>by
   refine⟨?_,fun a m k hh=>by simp at hh;exact hh.1.symm⟩
   simp only [OwV]
   refine⟨h0, .inr ⟨w.heap.size,len,len,_,e,rfl,by rw [hdl],Nat.le_refl _,?_, .inl rfl,heap_alloc_new w _,?_,?_⟩⟩
   ·have:len*1≤len*esz:=Nat.mul_le_mul_left _ h0
    simp only [maxLen];omega
   ·rw [←hdl,←OwL.length hown];simp
   ·rw [show ds.length=(((parts.toList.map (·.2)).map a.eval).flatMap fun v=>v.cells.toList).length from(OwL.length hown).symm]
    simp only [List.take_length]
    refine OwL.mono (fun b hb=>⟨.inr hb,fun e=>?_⟩) _ _ (OwL.frame (F:=fun b=>∃j∈J,(c j).fp b) ((kX w _).mono fun b ⟨j,_,hb⟩=>hp.flt j b hb) _ _ hown)
    obtain⟨j,_,hb⟩:=hb
    have:=hp.flt j b hb
    omega)
 unfold Oper.wp
 have hrun2:(execOp a.eval o).run E.P w= .ok (.value (.slice (some ⟨w.heap.size,0,none⟩) len len)) (w.alloc (.cells (((parts.toList.map (·.2)).map a.eval).flatMap fun v=>v.cells.toList).toArray e)):=by
  simp only [execOp,ho,Sem.run_bind,hrun,Result.andThen_ok]
  rfl
 rw [hrun2]
 refine hK _ _ (bO hd hnn ht hpin hx hp' hdn ?_)
 simp [Sv.ok,upd_same,cnU]
theorem lN (hdn:∀k,o.dst=some k→k<X.n) (t:TypeId) (len:Nat) (parts:Array (Nat×Operand)) (ho:o.op= .buildSlice t len parts) (hpt:parts.toList.map (·.1)=List.range len)
  (e:TypeId) (esz eby:Nat) (ez:List Value) (hk:(E.ti t).k= .sli e esz eby ez) (hlim:len*esz≤16777216)
  (hc:(parts.toList.map (·.2)).all (fun x=>(opd tm x).cells.length==esz&&(opd tm x).cells.all Sv.one)=true) (i:Nat) (hu:rs i=⟨0, .gone⟩):
  bG X E.P o tm rs (.bsl i len) [(i,⟨1, .box ((parts.toList.map (·.2)).flatMap fun x=>(opd tm x).cells)⟩)]:=by
 refine SStep0.inn ?_
 rintro a w K Q ⟨hd,hnn,c,hp,ht,hpin⟩ hK
 obtain⟨h1,h2⟩:=zD hp ht esz _ hc
 have hrun:=nX hk len parts hpt a h2 hlim w
 obtain⟨hp',hx⟩:=aCq hp i hu _ _ e h1
 unfold Oper.wp
 have hrun2:(execOp a.eval o).run E.P w= .ok (.value (.slice (some ⟨w.heap.size,0,none⟩) len len)) (w.alloc (.cells (((parts.toList.map (·.2)).map a.eval).flatMap fun v=>v.cells.toList).toArray e)):=by
  simp only [execOp,ho,Sem.run_bind,hrun,Result.andThen_ok]
  rfl
 rw [hrun2]
 refine hK _ _ (bO hd hnn ht hpin hx hp' hdn ?_)
 simp [Sv.ok,upd_same]
/-! ### make -/
theorem aAQ {t e:TypeId} {eby:Nat} {z:Value} (hk:(E.ti t).k= .sli e 1 eby [z]) (l n:Nat) (k k':IntKind) (hln:l≤n) (hb:n*eby≤140737488355328) (hm:n≤9223372036854775807) (w:World):
  (Instr.makeSlice t (.int k l) (.int k' n)).run E.P w= .ok (.slice (some ⟨w.heap.size,0,none⟩) l n) (w.alloc (.cells (List.replicate n z).toArray e)):=by
 have h:=E.ok t
 simp only [aR,hk]at h
 obtain⟨_,h2,inf,zv,h3,h4,h5,h6,h7⟩:=h
 have e1:IntKind.i64.wrap (l:Int)=l:=Go.IntWalk.i64_in _ (by omega)
 have e2:IntKind.i64.wrap (n:Int)=n:=Go.IntWalk.i64_in _ (by omega)
 have hb':(eby:Int)*n≤140737488355328:=by
  have:((n*eby:Nat):Int)≤140737488355328:=by omega
  rw [Nat.mul_comm]at this
  simpa using this
 have c1:¬((n:Int)<0):=by omega
 have c2:¬(281474976710656<(eby:Int)*n):=by omega
 have c3:¬((l:Int)<0):=by omega
 have c4:¬((n:Int)<l):=by omega
 have hz:zv.cells= #[z]:=by apply Array.ext';simpa using h7
 by_cases hn0:n=0
 ·subst hn0
  have hl0:l=0:=by omega
  subst hl0
  have w0:IntKind.i64.wrap 0=0:=by decide
  simp [Instr.makeSlice,run_underlying h2,asInt,asIntOf,typeInfo,h3,w0,askRoom,sizeOf,newRow,newObj,Sem.run,roomBytes]
  congr 2
  apply Array.ext'
  simp
 ·simp [Instr.makeSlice,run_underlying h2,asInt,asIntOf,typeInfo,h3,h5,e1,e2,c1,c2,c3,c4,askRoom,sizeOf,h4,hn0,zeroValue,h6,hz,newRow,newObj,Sem.run]
  congr 2
  apply Array.ext'
  simp [Nat.mod_one,List.map_const']
theorem aAx (hdn:∀k,o.dst=some k→k<X.n) (t:TypeId) (x y:Operand) (ho:o.op= .makeSlice t x y) (k k':IntKind) (l n:Int) (hx:opd tm x= .v (.int k l)) (hy:opd tm y= .v (.int k' n))
  (e:TypeId) (eby:Nat) (z:Value) (hk:(E.ti t).k= .sli e 1 eby [z]) (h0:0≤l) (hln:l≤n) (hb:n*eby≤140737488355328) (hm:n≤9223372036854775807) (i:Nat) (hu:rs i=⟨0, .gone⟩):
  bG X E.P o tm rs (.sl i) [(i,⟨1, .arr (.sl 1 (E.ti t).dd (List.replicate l.toNat (.v z)))⟩)]:=by
 refine SStep0.inn ?_
 rintro a w K Q ⟨hd,hnn,c,hp,ht,hpin⟩ hK
 have hx1:=bX ht x
 have hy1:=bX ht y
 rw [hx]at hx1
 rw [hy]at hy1
 simp only [Sv.ok]at hx1 hy1
 obtain⟨l,rfl⟩:=Int.eq_ofNat_of_zero_le h0
 obtain⟨n,rfl⟩:=Int.eq_ofNat_of_zero_le (Int.le_trans h0 hln)
 have hb':n*eby≤140737488355328:=by
  have:((n*eby:Nat):Int)≤140737488355328:=by simpa using hb
  omega
 have hrun:=aAQ hk l n k k' (by omega) hb' (by omega) w
 obtain⟨hp',hx⟩:=xA (w':=w.alloc (.cells (List.replicate n z).toArray e)) hp i hu ⟨w.heap.size, .slice (some ⟨w.heap.size,0,none⟩) l n,fun b=>b=w.heap.size⟩ (.arr (.sl 1 (E.ti t).dd (List.replicate l (.v z)))) rfl rfl rfl (by simp) (kX w _)
  (fun b hb=>by have hb':b=w.heap.size:=hb;subst hb';simp) rfl (fun hx=>by
   refine⟨?_,fun a m k hh=>by simp at hh;exact hh.1.symm⟩
   simp only [OwV]
   refine⟨by omega, .inr ⟨w.heap.size,l,n,_,e,rfl,by simp,by omega,by simp only [maxLen];omega,rfl,heap_alloc_new w _,by simp,?_⟩⟩
   simp only [List.length_replicate]
   rw [OwL.flat (by simp [Dt.isV])]
   simp [Dt.val,List.take_replicate]
   omega)
 unfold Oper.wp
 have hrun2:(execOp a.eval o).run E.P w= .ok (.value (.slice (some ⟨w.heap.size,0,none⟩) l n)) (w.alloc (.cells (List.replicate n z).toArray e)):=by
  simp only [execOp,ho,hx1,hy1,Sem.run_bind]
  erw [hrun]
  rfl
 rw [hrun2]
 refine hK _ _ (bO hd hnn ht hpin hx hp' hdn ?_)
 simp [Sv.ok,upd_same]
end
end Go.Eng
end
section
namespace Go.Eng
open Go
def aNm (w:World) (sz:Nat) (u:Value) (m:Nat) (news:List Value):Prop:=
 (u= .slice none 0 0∧m=0∧news=[])∨∃a c,u= .slice (some a) m c∧news.length=m*sz∧∀j x,news[j]? =some x→w.cell? (a.add j)=some x
structure AppOut (w w':World) (row:Option Nat) (sz:Nat) (v':Value) (len:Nat) (xs:List Value):Prop where
 gr:w.grownBy w' row
 out:(v'= .slice none 0 0∧len=0∧xs=[])∨∃g cap cur e,v'= .slice (some ⟨g,0,none⟩) len cap∧len≤cap∧cap≤maxLen∧w'.heap[g]? =some (.cells cur e (0,0))∧cur.size=cap*sz∧
   cur.toList.take (len*sz)=xs∧(some g=row∨w.heap.size≤g)
section
variable {X:Cx} {E:Env} {o:Oper} {tm:Nat→Sv} {rs:Nat→Rs}
theorem grownBy_refl (w:World) (row:Option Nat):w.grownBy w row:=⟨rfl,rfl,rfl,Nat.le_refl _,fun _ _ _=>rfl⟩
theorem aED {t ty e : TypeId} {esz eby : Nat} {ez : List Value} (hk : (E.ti t).k = .sli e esz eby ez) (hez : ez.length = esz) (w : World) (v : Value) (n : Nat) (xs : List Value) (row : Option Nat)
    (hv : (v = .slice none 0 0 ∧ n = 0 ∧ xs = [] ∧ row = none) ∨ ∃ g cap cur e', v = .slice (some ⟨g, 0, none⟩) n cap ∧ n ≤ cap ∧ cap ≤ maxLen ∧ w.heap[g]? = some (.cells cur e' (0, 0)) ∧ cur.size = cap * esz ∧ cur.toList.take (n * esz) = xs ∧ row = some g)
    (u : Value) (m : Nat) (news : List Value) (hu : aNm w esz u m news) (h1 : ∀ x ∈ news, x.oneCell' = true) (hb : (n + m) * eby ≤ 140737488355328) (hm : n + m ≤ 9223372036854775807) :
    ∃ v' w', (Builtin.append_ #[t, t] ty #[v, u]).run E.P w = .ok v' w' ∧ AppOut w w' row esz v' (n + m) (xs ++ news) := by
  have h := E.ok t
  simp only [aR, hk] at h
  obtain ⟨_, ht, i, z, hi, hsz, hby, hz, hzc⟩ := h
  have hzs : z.cells.size = esz := by have := congrArg List.length hzc; simpa [hez] using this
  have hmx : n + m ≤ maxLen := by simp only [maxLen]; omega
  rcases hu with ⟨rfl, rfl, rfl⟩ | ⟨a, c, rfl, hl, hnews⟩
  · -- nothing is appended
    refine ⟨v, w, ?_, grownBy_refl _ _, ?_⟩
    · rcases hv with ⟨rfl, _⟩ | ⟨g, cap, cur, e', rfl, h2, _⟩
      · simp [Builtin.append_, run_underlying ht, sizeOf, typeInfo, hi, Builtin.lenOf, Builtin.firstCells]
      · simp [Builtin.append_, run_underlying ht, sizeOf, typeInfo, hi, Builtin.lenOf, Builtin.firstCells, h2, storeCells]
    · rcases hv with ⟨rfl, rfl, rfl, _⟩ | ⟨g, cap, cur, e', rfl, h2, h3, h4, h5, h6, h7⟩
      · exact .inl ⟨rfl, rfl, rfl⟩
      · exact .inr ⟨g, cap, cur, e', rfl, h2, h3, h4, h5, by simpa using h6, .inl h7.symm⟩
  · have grown : ∀ (old : Nat), AppOut w (w.drew.alloc (.cells (xs.toArray ++ news.toArray ++ Builtin.zeroCells z.cells (grownCap w (n + m) old e - (n + m))) e)) row esz
          (.slice (some ⟨w.heap.size, 0, none⟩) (n + m) (grownCap w (n + m) old e)) (n + m) (xs ++ news) := by
      intro old
      have hge := grownCap_ge w (n + m) old e
      have hcm : grownCap w (n + m) old e ≤ maxLen := grownCap_le_maxLen w (n + m) old e hmx
      have hxl : xs.length = n * esz := by
        rcases hv with ⟨_, rfl, rfl, _⟩ | ⟨g, cap, cur, e', rfl, h2, h3, h4, h5, h6, h7⟩
        · simp
        · rw [← h6]
          have : n * esz ≤ cap * esz := Nat.mul_le_mul_right _ h2
          simp; omega
      refine ⟨⟨rfl, rfl, rfl, by simp, fun k hk _ => Go.RowKit.Below.heap_alloc w.drew _ k hk⟩, .inr ⟨w.heap.size, _, _, e, rfl, hge, hcm, heap_alloc_new w.drew _, ?_, ?_, .inr (Nat.le_refl _)⟩⟩
      · simp only [Array.size_append, List.size_toArray, size_zeroCells, hzs, hxl, hl, ← Nat.add_mul]
        congr 1
        omega
      · have hlen : (xs ++ news).length = (n + m) * esz := by rw [List.length_append, hxl, hl, Nat.add_mul]
        simp only [Array.toList_append, List.append_assoc]
        rw [← List.append_assoc, ← hlen]
        exact List.take_left
    have hsmall : ((n + m : Nat) : Int) ≤ 9223372036854775807 := by omega
    rcases hv with ⟨rfl, rfl, rfl, rfl⟩ | ⟨g, cap, cur, e', rfl, h2, h3, h4, h5, h6, rfl⟩
    · by_cases hm0 : m = 0
      · subst hm0
        have hn : news = [] := List.eq_nil_of_length_eq_zero (by simpa using hl)
        subst hn
        refine ⟨.slice none 0 0, w, ?_, grownBy_refl _ _, .inl ⟨rfl, rfl, rfl⟩⟩
        simp [Builtin.append_, run_underlying ht, sizeOf, typeInfo, hi, Builtin.lenOf, Builtin.firstCells, loadCells, loadCellsFrom]
      · have hr := run_append_nil (P := E.P) w t ty e i z ht hi hz a m c news (by rw [hsz]; exact hl) hnews (by omega) (by omega) (by rw [hby]; simp only [Nat.zero_add] at hb; omega)
        have hgr := grown 0
        simp only [Nat.zero_add, List.nil_append, Array.empty_append] at hgr ⊢
        exact ⟨_, _, hr, hgr⟩
    · by_cases hroom : n + m ≤ cap
      · have hfit : n * esz + news.length ≤ cur.size := by rw [hl, h5, ← Nat.add_mul]; exact Nat.mul_le_mul_right _ hroom
        have hf := run_firstCells_some (P := E.P) w i.size m a m c news (by rw [hsz]; exact hl) hnews
        have hst := run_storeCells_at E.P g (n * i.size) e' news 0 cur w h4 (by rw [hsz]; simpa using hfit) h1
        simp only [Nat.add_zero] at hst
        have hr : (Builtin.append_ #[t, t] ty #[.slice (some ⟨g, 0, none⟩) n cap, .slice (some a) m c]).run E.P w =
            .ok (.slice (some ⟨g, 0, none⟩) (n + m) cap) (w.setRow g (cur.toList.take (n * i.size) ++ news ++ cur.toList.drop (n * i.size + news.length)).toArray) := by
          simp [Builtin.append_, run_underlying ht, sizeOf, typeInfo, hi, Builtin.lenOf, hroom, hf, Addr.add_lit, hst]
        rw [hsz] at hr
        refine ⟨_, _, hr, ⟨rfl, rfl, rfl, by simp, fun k _ hk => setRow_other w g k _ (fun e => hk (by simp [e]))⟩, .inr ⟨g, cap, _, e', rfl, hroom, h3, setRow_heap w g cur _ e' _ h4, ?_, ?_, .inl rfl⟩⟩
        · simp only [List.size_toArray, List.length_append, List.length_take, List.length_drop, Array.length_toList]
          omega
        · have hxl : (cur.toList.take (n * esz)).length = n * esz := by
            have : n * esz ≤ cap * esz := Nat.mul_le_mul_right _ h2
            simp; omega
          have hlen : (cur.toList.take (n * esz) ++ news).length = (n + m) * esz := by rw [List.length_append, hxl, hl, Nat.add_mul]
          rw [← h6, ← hlen]
          exact List.take_left
      · have holds : ∀ j x, xs[j]? = some x → w.cell? ((⟨g, 0, none⟩ : Addr).add j) = some x := by
          intro j x hx
          rw [Addr.add_plain, Nat.zero_add]
          rw [← h6, List.getElem?_take] at hx
          split at hx
          · simp [World.cell?, h4]; simpa using hx
          · cases hx
        have hxl : xs.length = n * esz := by
          rw [← h6]
          have : n * esz ≤ cap * esz := Nat.mul_le_mul_right _ h2
          simp; omega
        have hr := run_append_grow (P := E.P) w t ty e i z ht hi hz ⟨g, 0, none⟩ n cap xs (by rw [hsz]; exact hxl) holds a m c news (by rw [hsz]; exact hl) hnews (by omega) (by omega) (by rw [hby]; exact growslice_fits (by omega) hb)
        exact ⟨_, _, hr, grown cap⟩
theorem aLI {w w':World} {c:Nat→Cn} (hp:Hp X.w0 X.U X.S c rs w) (k:Nat) (hu:rs k=⟨0, .gone⟩) (J0 J:List Nat) (hkJ:k∉J0++J) (sz:Nat) (h0:0<sz) (df:Dt) (ds es:List Dt) (v':Value) (len:Nat) (xs news:List Value) (row:Option Nat)
  (happ:AppOut w w' row sz v' len (xs++news)) (hrow:∀g,row=some g→∃j∈J0,(c j).fp g)
  (hxs:OwL w (fun b=>(∃j∈J0,(c j).fp b)∧some b≠row) ds xs) (hnews:OwL w (fun b=>∃j∈J,(c j).fp b) es news) (hd:∀j∈J0,j∉J) (hlen:len*sz=ds.length+es.length):
  ∃c',Hp X.w0 X.U X.S c' (upd (dC rs (bP rs (J0++J))) k ⟨1, .arr (.sl sz df (ds++es))⟩) w'∧Ext X.S w w' c c' rs (upd (dC rs (bP rs (J0++J))) k ⟨1, .arr (.sl sz df (ds++es))⟩)∧(c' k).hdr=v':=by
 have hone:v'.oneCell'=true:=by
  rcases happ.out with⟨rfl,_⟩|⟨g,cap,cur,e,rfl,_⟩<;>rfl
 let g:=match v' with| .slice (some a) _ _=>a.block|_=>0
 let n:Cn:=⟨g,v',fun b=>(∃j∈J0++J,(c j).fp b)∨(w.heap.size≤b∧b<w'.heap.size)⟩
 have hag:Agree (fun b=>b<w.heap.size∧∀j∈J0,¬(c j).fp b) w w':=fun b hb=>
  happ.gr.block b hb.1 (fun e=>by obtain⟨j,hj,hh⟩:=hrow b e.symm;exact hb.2 j hj hh)
 obtain⟨hp',hx⟩:=vG (w':=w') hp k n 1 (.arr (.sl sz df (ds++es))) (J0++J) hkJ (by rw [hu];simp) (.inl hu) happ.gr.os happ.gr.tape happ.gr.output happ.gr.size
  (hag.mono fun b hb=>⟨hb.1,fun j hj=>hb.2.2 j (by simp [hj])⟩) (fun b hb=> .inr hb) hone (fun hx=>by
   refine⟨?_,fun a m q hh=>?_⟩
   ·simp only [OwV]
    refine⟨h0,?_⟩
    rcases happ.out with⟨rfl,h1,h2⟩|⟨g',cap,cur,e,rfl,h1,h2,h3,h4,h5,h6⟩
    ·refine .inl ⟨rfl,List.eq_nil_of_length_eq_zero ?_⟩
     rw [List.length_append,←hlen,h1];simp
    ·have hg':g'<w'.heap.size:=(Array.getElem?_eq_some_iff.1 h3).1
     refine .inr ⟨g',len,cap,cur,e,rfl,by rw [hlen,List.length_append],h1,h2,?_,h3,h4,?_⟩
     ·rcases h6 with h6|h6
      ·obtain⟨j,hj,hh⟩:=hrow g' h6.symm
       exact .inl ⟨j,by simp [hj],hh⟩
      ·exact .inr ⟨h6,hg'⟩
     ·rw [List.length_append,←hlen,h5]
      have hne:∀b,((∃j∈J0,(c j).fp b)∧some b≠row)∨(∃j∈J,(c j).fp b)→b≠g':=by
       intro b hb e'
       subst e'
       have hb1:b<w.heap.size:=by
        rcases hb with⟨⟨j,_,hb⟩,_⟩|⟨j,_,hb⟩
        ·exact hp.flt j b hb
        ·exact hp.flt j b hb
       rcases h6 with h6|h6
       ·rcases hb with⟨_,hb⟩|⟨j,hj,hb⟩
        ·exact hb h6
        ·obtain⟨i,hi,hh⟩:=hrow b h6.symm
         exact hp.dis i j b (fun e=>hd i hi (by rw [e];exact hj)) hh hb
       ·omega
      have k1:OwL w' (fun b=>(∃j∈J0,(c j).fp b)∧some b≠row) ds xs:=OwL.frame (fun b hb=>by
       obtain⟨⟨j,hj,hb⟩,hr⟩:=hb
       exact happ.gr.block b (hp.flt j b hb) hr) _ _ hxs
      have k2:OwL w' (fun b=>∃j∈J,(c j).fp b) es news:=OwL.frame (fun b hb=>by
       obtain⟨j,hj,hb⟩:=hb
       exact happ.gr.block b (hp.flt j b hb) (fun e=>by
        obtain⟨i,hi,hh⟩:=hrow b e.symm
        exact hp.dis i j b (fun e=>hd i hi (by rw [e];exact hj)) hh hb)) _ _ hnews
      refine OwL.append k1 k2 (fun b hb=>⟨?_,hne b (.inl hb)⟩) (fun b hb=>⟨?_,hne b (.inr hb)⟩) (fun b h1 h2=>?_)
      ·obtain⟨⟨j,hj,hb⟩,_⟩:=hb;exact .inl ⟨j,by simp [hj],hb⟩
      ·obtain⟨j,hj,hb⟩:=hb;exact .inl ⟨j,by simp [hj],hb⟩
      ·obtain⟨⟨i,hi,h1⟩,_⟩:=h1
       obtain⟨j,hj,h2⟩:=h2
       exact hp.dis i j b (fun e=>hd i hi (by rw [e];exact hj)) h1 h2
   ·rcases happ.out with⟨rfl,h1,h2⟩|⟨g',cap,cur,e,rfl,h1,h2,h3,h4,h5,h6⟩
    ·simp [n]at hh
    ·simp only [n,Value.slice.injEq,Option.some.injEq]at hh
     rw [←hh.1])
 exact⟨_,hp',hx,by simp [cnU,n]⟩
end
end Go.Eng
end
