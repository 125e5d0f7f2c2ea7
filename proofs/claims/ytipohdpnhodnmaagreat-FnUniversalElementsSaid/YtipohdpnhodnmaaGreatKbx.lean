/- Several texts in one: EngI, EngJ, EngK, EngKb, EngKc, EngL, EngM, EngN, EngO. -/
import Derived.Test.YtipohdpnhodnmaaGreatKax
import Derived.RangeFuncSeq
import Derived.Orders
import Derived.OrdersIn
section
namespace Go.Eng
open Go
def Dt.one:Dt→Bool| .v x=>x.oneCell'|_=>true
theorem OwV.one {w:World} {F:Nat→Prop}:∀{d:Dt} {u:Value},d.one=true→OwV w F d u→u.oneCell'=true
 | .v x,u,h,k=>by simp only [OwV]at k;subst k;simpa [Dt.one]using h
 | .sl ..,u,_,k=>(OwV.rd _ _ k).one
 | .pt ..,u,_,k=>by simp [OwV]at k
 | .ab _,u,_,k=>by simp only [OwV]at k;exact k.1
theorem OwL.one {w:World}:∀{F:Nat→Prop} {ds:List Dt} {us:List Value},ds.all Dt.one=true→OwL w F ds us→∀u∈us,u.oneCell'=true
 |F,[],us,_,k=>by simp [OwL]at k;simp [k]
 |F,d::ds,us,h,k=>by
  simp only [OwL]at k
  obtain⟨x,r,F1,F2,rfl,_,_,_,k1,k2⟩:=k
  simp only [List.all_cons,Bool.and_eq_true]at h
  intro u hu
  simp only [List.mem_cons]at hu
  rcases hu with rfl|hu
  ·exact OwV.one h.1 k1
  ·exact OwL.one h.2 k2 u hu
section
variable {X:Cx} {E:Env} {o:Oper} {tm:Nat→Sv} {rs:Nat→Rs}
def aGW (tm:Nat→Sv) (rs:Nat→Rs) (x:Operand) (esz:Nat) (ds:List Dt) (J0:List Nat):Prop:=
 (opd tm x= .v (.slice none 0 0)∧J0=[]∧ds=[])∨∃i cv df,opd tm x= .sl i∧rs i=⟨cv, .arr (.sl esz df ds)⟩∧J0=[i]
theorem lM (hdn : ∀ k, o.dst = some k → k < X.n) (t : TypeId) (x y : Operand) (ho : o.op = .call { callee := .builtin .append, args := #[x, y], argTypes := #[t, t] })
    (e : TypeId) (esz eby : Nat) (ez : List Value) (hk : (E.ti t).k = .sli e esz eby ez) (h0 : 0 < esz) (hez : ez.length = esz) (ds es : List Dt) (J0 J : List Nat) (hdst : aGW tm rs x esz ds J0) (hd : ∀ j ∈ J0, j ∉ J)
    (hJu : ∀ j ∈ J, 1 ≤ (rs j).cv)
    (hsrc : ∀ (a : Act) (w : World) (c : Nat → Cn), Hp X.w0 X.U X.S c rs w → (∀ x, (opd tm x).ok w X.S c rs (a.eval x)) → ∃ m news, aNm w esz (a.eval y) m news ∧ m * esz = es.length ∧ OwL w (fun b => ∃ j ∈ J, (c j).fp b) es news)
    (hone : es.all Dt.one = true) (hb : (ds.length + es.length) * eby ≤ 140737488355328 * esz) (hm : ds.length + es.length ≤ 9223372036854775807) (k : Nat) (hu : rs k = ⟨0, .gone⟩) :
    bG X E.P o tm rs (.sl k) ((k, ⟨1, .arr (.sl esz (E.ti t).dd (ds ++ es))⟩) :: bP rs (J0 ++ J)) := by
  refine SStep0.inn ?_
  rintro a w K Q ⟨hdf, hnn, c, hp, ht, hpin⟩ hK
  have hopd := fun z => bX (X := X) (rs := rs) (tm := tm) (a := a) (w := w) (c := c) ht z
  obtain ⟨m, news, hs1, hs2, hs3⟩ := hsrc a w c hp hopd
  have hnone := OwL.one hone hs3
  -- the destination
  have hdest : ∃ n xs row, ((a.eval x = .slice none 0 0 ∧ n = 0 ∧ xs = [] ∧ row = none) ∨ ∃ g cap cur e', a.eval x = .slice (some ⟨g, 0, none⟩) n cap ∧ n ≤ cap ∧ cap ≤ maxLen ∧ w.heap[g]? = some (.cells cur e' (0, 0)) ∧ cur.size = cap * esz ∧ cur.toList.take (n * esz) = xs ∧ row = some g) ∧
      n * esz = ds.length ∧ OwL w (fun b => (∃ j ∈ J0, (c j).fp b) ∧ some b ≠ row) ds xs ∧ (∀ g, row = some g → ∃ j ∈ J0, (c j).fp g) := by
    rcases hdst with ⟨h1, rfl, rfl⟩ | ⟨i, cv, df, h1, h2, rfl⟩
    · have hx1 := hopd x
      rw [h1] at hx1
      simp only [Sv.ok] at hx1
      exact ⟨0, [], none, .inl ⟨hx1, rfl, rfl, rfl⟩, by simp, by simp [OwL], by simp⟩
    · have hx1 := hopd x
      rw [h1] at hx1
      simp only [Sv.ok] at hx1
      have hr := hp.res i
      rw [h2] at hr
      obtain ⟨h3, h4⟩ := hr
      simp only [OwV] at h3
      rcases h3.2 with ⟨h5, rfl⟩ | ⟨g, n, cap, cur, e', e1, e2, e3, e4, e5, e6, e7, e8⟩
      · exact ⟨0, [], none, .inl ⟨hx1.2.trans h5, rfl, rfl, rfl⟩, by simp, by simp [OwL], by simp⟩
      · refine ⟨n, _, some g, .inr ⟨g, cap, cur, e', hx1.2.trans e1, e3, e4, e6, e7, rfl, rfl⟩, e2, ?_, fun g' hg' => ?_⟩
        · rw [e2]
          exact OwL.mono (fun b hb => ⟨⟨i, by simp, hb.1⟩, fun e => hb.2 (by simpa using e)⟩) _ _ e8
        · have hgg : g = g' := by simpa using hg'
          subst hgg
          exact ⟨i, by simp, e5⟩
  obtain ⟨n, xs, row, hd1, hd2, hd3, hd4⟩ := hdest
  have hnm : (n + m) * esz = ds.length + es.length := by rw [Nat.add_mul, hd2, hs2]
  have hbb : (n + m) * eby ≤ 140737488355328 := by
    have h1 : (n + m) * eby * esz ≤ 140737488355328 * esz := by
      rw [Nat.mul_assoc, Nat.mul_comm eby esz, ← Nat.mul_assoc, hnm]; exact hb
    exact Nat.le_of_mul_le_mul_right h1 h0
  have hmm : n + m ≤ 9223372036854775807 := by
    have : (n + m) * 1 ≤ (n + m) * esz := Nat.mul_le_mul_left _ h0
    omega
  obtain ⟨v', w', hrun, happ⟩ := aED (ty := o.type) hk hez w (a.eval x) n xs row hd1 (a.eval y) m news hs1 hnone hbb hmm
  have hkJ : k ∉ J0 ++ J := by
    intro hkk
    rcases List.mem_append.1 hkk with hkk | hkk
    · rcases hdst with ⟨_, rfl, _⟩ | ⟨i, cv, df, h1, h2, rfl⟩
      · simp at hkk
      · simp at hkk; subst hkk; rw [hu] at h2; simp at h2
    · have := hJu k hkk; rw [hu] at this; simp at this
  obtain ⟨c', hp', hx, hh⟩ := aLI hp k hu J0 J hkJ esz h0 (E.ti t).dd ds es v' (n + m) xs news row happ hd4 hd3 hs3 hd hnm
  unfold Oper.wp
  have hrun2 : (execOp a.eval o).run E.P w = .ok (.value v') w' := by
    simp [execOp, ho, resolve, invoke, builtin, hrun]
  rw [hrun2]
  refine hK _ _ (bO hdf hnn ht hpin hx hp' hdn ?_)
  simp [Sv.ok, upd_same, hh]
theorem uJ (hdn:∀k,o.dst=some k→k<X.n) (t:TypeId) (x y:Operand) (ho:o.op= .call {callee:= .builtin .append,args:= #[x,y],argTypes:= #[t,t]})
  (e:TypeId) (esz eby:Nat) (ez:List Value) (hk:(E.ti t).k= .sli e esz eby ez) (h0:0<esz) (hez:ez.length=esz) (ds es:List Dt) (J0:List Nat) (hdst:aGW tm rs x esz ds J0) (j:Nat) (hy:opd tm y= .sl j) (hd:j∉J0)
  (cv:Nat) (df:Dt) (hr:rs j=⟨cv, .arr (.sl esz df es)⟩) (hcv:1≤cv)
  (hone:es.all Dt.one=true) (hb:(ds.length+es.length)*eby≤140737488355328*esz) (hm:ds.length+es.length≤9223372036854775807) (k:Nat) (hu:rs k=⟨0, .gone⟩):
  bG X E.P o tm rs (.sl k) ((k,⟨1, .arr (.sl esz (E.ti t).dd (ds++es))⟩)::bP rs (J0++[j])):=
 lM hdn t x y ho e esz eby ez hk h0 hez ds es J0 [j] hdst (fun i hi hj=>hd (by simp at hj;subst hj;exact hi)) (by simp [hr,hcv]) (fun a w c hp hopd=>by
  have h1:=hopd y
  rw [hy]at h1
  simp only [Sv.ok]at h1
  have h2:=hp.res j
  rw [hr]at h2
  obtain⟨h3,h4⟩:=h2
  simp only [OwV]at h3
  rcases h3.2 with⟨h5,rfl⟩|⟨g,n,cap,cur,e',e1,e2,e3,e4,e5,e6,e7,e8⟩
  ·exact⟨0,[], .inl ⟨h1.2.trans h5,rfl,rfl⟩,by simp,by simp [OwL]⟩
  ·refine⟨n,_, .inr ⟨⟨g,0,none⟩,cap,h1.2.trans e1,?_,fun l x hl=>?_⟩,e2,OwL.mono (fun b hb=>⟨j,by simp,hb.1⟩) _ _ e8⟩
   ·rw [OwL.length e8,e2]
   ·rw [Addr.add_plain,Nat.zero_add]
    rw [List.getElem?_take]at hl
    split at hl
    ·simp [World.cell?,e6];simpa using hl
    ·cases hl) hone hb hm k hu
theorem uI (hdn:∀k,o.dst=some k→k<X.n) (t:TypeId) (x y:Operand) (ho:o.op= .call {callee:= .builtin .append,args:= #[x,y],argTypes:= #[t,t]})
  (e:TypeId) (esz eby:Nat) (ez:List Value) (hk:(E.ti t).k= .sli e esz eby ez) (h0:0<esz) (hez:ez.length=esz) (ds es:List Dt) (J0:List Nat) (hdst:aGW tm rs x esz ds J0) (j:Nat) (hy:opd tm y= .sl j)
  (cv:Nat) (df:Dt) (hr:rs j=⟨cv, .arr (.sl esz df es)⟩) (hflat:es.all Dt.isV=true)
  (hone:es.all Dt.one=true) (hb:(ds.length+es.length)*eby≤140737488355328*esz) (hm:ds.length+es.length≤9223372036854775807) (k:Nat) (hu:rs k=⟨0, .gone⟩):
  bG X E.P o tm rs (.sl k) ((k,⟨1, .arr (.sl esz (E.ti t).dd (ds++es))⟩)::bP rs (J0++[])):=
 lM hdn t x y ho e esz eby ez hk h0 hez ds es J0 [] hdst (by simp) (by simp) (fun a w c hp hopd=>by
  have h1:=hopd y
  rw [hy]at h1
  simp only [Sv.ok]at h1
  have h2:=hp.res j
  rw [hr]at h2
  obtain⟨h3,h4⟩:=h2
  simp only [OwV]at h3
  rcases h3.2 with⟨h5,rfl⟩|⟨g,n,cap,cur,e',e1,e2,e3,e4,e5,e6,e7,e8⟩
  ·exact⟨0,[], .inl ⟨h1.2.trans h5,rfl,rfl⟩,by simp,by simp [OwL]⟩
  ·refine⟨n,_, .inr ⟨⟨g,0,none⟩,cap,h1.2.trans e1,?_,fun l x hl=>?_⟩,e2,(OwL.flat hflat).2 ((OwL.flat hflat).1 e8)⟩
   ·rw [OwL.length e8,e2]
   ·rw [Addr.add_plain,Nat.zero_add]
    rw [List.getElem?_take]at hl
    split at hl
    ·simp [World.cell?,e6];simpa using hl
    ·cases hl) hone hb hm k hu
theorem wB (hdn:∀k,o.dst=some k→k<X.n) (t:TypeId) (x y:Operand) (ho:o.op= .call {callee:= .builtin .append,args:= #[x,y],argTypes:= #[t,t]})
  (e:TypeId) (esz eby:Nat) (ez:List Value) (hk:(E.ti t).k= .sli e esz eby ez) (h0:0<esz) (hez:ez.length=esz) (ds es:List Dt) (J0:List Nat) (hdst:aGW tm rs x esz ds J0) (ts:List (Nat×Nat)) (df:Dt)
  (hy:opd tm y= .bor ts (.sl esz df es)) (htv:gI rs ts) (hflat:es.all Dt.isV=true)
  (hone:es.all Dt.one=true) (hb:(ds.length+es.length)*eby≤140737488355328*esz) (hm:ds.length+es.length≤9223372036854775807) (k:Nat) (hu:rs k=⟨0, .gone⟩):
  bG X E.P o tm rs (.sl k) ((k,⟨1, .arr (.sl esz (E.ti t).dd (ds++es))⟩)::bP rs (J0++[])):=
 lM hdn t x y ho e esz eby ez hk h0 hez ds es J0 [] hdst (by simp) (by simp) (fun a w c hp hopd=>by
  have h1:=hopd y
  rw [hy]at h1
  simp only [Sv.ok]at h1
  have h3:=h1.2.2 htv
  simp only [RdV]at h3
  rcases h3.2 with⟨e1,rfl⟩|⟨g,off,sp,m,cap,vs,e1,e2,_,_,e5,e6,e7⟩
  ·exact⟨0,[], .inl ⟨e1,rfl,rfl⟩,by simp,by simp [OwL]⟩
  ·refine⟨m,vs, .inr ⟨⟨g,off,sp⟩,cap,e1,by rw [RdL.length e6,e2],fun l x hl=>?_⟩,e2,(OwL.flat hflat).2 ((RdL.flat hflat).1 e6)⟩
   by_cases hes:es=[]
   ·subst hes;simp [RdL]at e6;subst e6;simp at hl
   ·rw [(e5 hes).1,Addr.add_plain];exact e7 l x hl) hone hb hm k hu
theorem wC (hdn:∀k,o.dst=some k→k<X.n) (t:TypeId) (x y:Operand) (ho:o.op= .call {callee:= .builtin .append,args:= #[x,y],argTypes:= #[t,t]})
  (e:TypeId) (esz eby:Nat) (ez:List Value) (hk:(E.ti t).k= .sli e esz eby ez) (h0:0<esz) (hez:ez.length=esz) (ds:List Dt) (J0:List Nat) (hdst:aGW tm rs x esz ds J0)
  (hy:opd tm y= .v (.slice none 0 0)) (hb:ds.length*eby≤140737488355328*esz) (hm:ds.length≤9223372036854775807) (k:Nat) (hu:rs k=⟨0, .gone⟩):
  bG X E.P o tm rs (.sl k) ((k,⟨1, .arr (.sl esz (E.ti t).dd (ds++[]))⟩)::bP rs (J0++[])):=
 lM hdn t x y ho e esz eby ez hk h0 hez ds [] J0 [] hdst (by simp) (by simp) (fun a w c hp hopd=>by
  have h1:=hopd y
  rw [hy]at h1
  simp only [Sv.ok]at h1
  exact⟨0,[], .inl ⟨h1,rfl,rfl⟩,by simp,by simp [OwL]⟩) (by simp) (by simpa using hb) (by simpa using hm) k hu
theorem tA (hdn:o.dst=none) (t:TypeId) (x y:Operand) (ho:o.op= .store t x y) (i p:Nat) (hx:opd tm x= .ptr i p) (hk:(E.ti t).known=true) (hsz:(E.ti t).size=1)
  (cv sz:Nat) (df:Dt) (cs:List Dt) (hr:rs i=⟨cv, .arr (.sl sz df cs)⟩) (j:Nat) (hy:opd tm y= .sl j) (hij:i≠j) (cv2:Nat) (d:Dt) (hrj:rs j=⟨cv2, .arr d⟩) (hfit:p<cs.length):
  bG X E.P o tm rs .dead ((i,⟨cv+1, .arr (.sl sz df (cs.set p d))⟩)::bP rs [j]):=by
 refine SStep0.inn ?_
 rintro a w K Q ⟨hd,hn,c,hp,ht,hpin⟩ hK
 have hx1:=bX ht x
 rw [hx]at hx1
 simp only [Sv.ok]at hx1
 have hy1:=bX ht y
 rw [hy]at hy1
 simp only [Sv.ok]at hy1
 have h2:=hp.res i
 rw [hr]at h2
 obtain⟨h3,h4⟩:=h2
 simp only [OwV]at h3
 obtain⟨hsz0,h3⟩:=h3
 have hj:=hp.res j
 rw [hrj]at hj
 rcases h3 with⟨_,rfl⟩|⟨g,m,cap,cur,e',e1,e2,e3,e4,e5,e6,e7,e8⟩
 ·simp at hfit
 ·have h5:=h4 _ _ _ e1
  simp at h5
  subst h5
  have hlen:cs.length≤cur.size:=by
   rw [←e2,e7];exact Nat.mul_le_mul_right _ e3
  have hv:(c j).hdr.oneCell'=true:=hp.one j
  have hcl:(c j).hdr.cells.toList=[(c j).hdr]:=by rw [Value.cells_one hv]
  have hrun:=dU (E:=E) hk e6 (v:=(c j).hdr) (p:=p) (by rw [hcl,hsz];rfl) (by rw [hcl];simp;omega) (by rw [hcl];simpa using hv)
  have hset:putAt cur.toList p (c j).hdr.cells.toList=cur.toList.set p (c j).hdr:=by
   rw [hcl,putAt]
   have hp1:p<cur.toList.length:=by simp;omega
   rw [List.set_eq_take_append_cons_drop]
   simp only [hp1,if_true,List.length_singleton]
   simp
  rw [hset]at hrun
  have hag:Agree (fun b=>b≠(c i).blk) w (w.setRow (c i).blk (cur.toList.set p (c j).hdr).toArray):=dQ _ (by simp)
  obtain⟨hp',hx'⟩:=vG (w':=w.setRow (c i).blk (cur.toList.set p (c j).hdr).toArray) hp i ⟨(c i).blk,(c i).hdr,fun b=>(c i).fp b∨(c j).fp b⟩ (cv+1) (.arr (.sl sz df (cs.set p d))) [j] (by simp [hij]) (by rw [hr];simp)
   (.inr ⟨rfl,rfl⟩) rfl rfl rfl (by simp) (hag.mono fun b hb e=>hb.2.1 (by rw [e];exact e5)) (fun b hb=>hb.elim .inl (fun h=> .inr (.inl ⟨j,by simp,h⟩))) (hp.one i) (fun hx'=>by
    refine⟨?_,h4⟩
    simp only [OwV]
    refine⟨hsz0, .inr ⟨(c i).blk,m,cap,_,e',e1,by simpa using e2,e3,e4, .inl e5,setRow_heap w _ cur _ e' (0,0) e6,by simpa using e7,?_⟩⟩
    have h9:OwL (w.setRow (c i).blk (cur.toList.set p (c j).hdr).toArray) (fun b=>(c i).fp b∧b≠(c i).blk) cs (cur.toList.take cs.length):=
     OwL.frame (hag.mono fun b hb=>hb.2) _ _ e8
    have h10:OwV (w.setRow (c i).blk (cur.toList.set p (c j).hdr).toArray) (c j).fp d (c j).hdr:=OwV.frame (hag.mono fun b hb e=>by subst e;exact hp.dis j i _ (Ne.symm hij) hb e5) _ _ hj.1
    have h11:=OwL.set (k:=p) (H:=fun b=>((c i).fp b∨(c j).fp b)∧b≠(c i).blk) h9 h10 (fun b hb=>⟨.inl hb.1,hb.2⟩) (fun b hb=>⟨.inr hb,fun e=>by subst e;exact hp.dis j i _ (Ne.symm hij) hb e5⟩) (fun b h h'=>hp.dis i j b hij h.1 h')
    simp only [List.length_set]
    show OwL _ _ _ ((cur.toList.set p (c j).hdr).take cs.length)
    rwa [List.take_set])
  unfold Oper.wp
  have hrun2:(execOp a.eval o).run E.P w= .ok .skip (w.setRow (c i).blk (cur.toList.set p (c j).hdr).toArray):=by
   simp [execOp,ho,hx1.2,hy1.2,hrun]
  rw [hrun2]
  exact hK _ _ (bO hd hn ht hpin hx' hp' (by simp [hdn]) (by simp [Sv.ok]))
end
end Go.Eng
end
section
namespace Go.Eng
open Go
def rsL (L:List (Nat×Rs)):Nat→Rs:=dC (fun _=>⟨0, .gone⟩) L
def Spec (P:Program) (f:FuncId) (args:List Sv) (L0:List (Nat×Rs)) (r:Sv) (L1:List (Nat×Rs)):Prop:=
 ∀(w0:World) (U S:Nat→Prop) (c0:Nat→Cn) (vs:List Value),Hp w0 U S c0 (rsL L0) w0→Sv.okL w0 S c0 (rsL L0) args vs→
  Calls P f vs.toArray w0 fun e w'=>∃v c1,e= .returned v∧Hp w0 U S c1 (rsL L1) w'∧Sv.ok w' S c1 (rsL L1) r v∧
   (∀i,1≤(rsL L0 i).cv→1≤(rsL L1 i).cv∧(c1 i).blk=(c0 i).blk∧(c1 i).hdr=(c0 i).hdr)
def fwd:List (Nat×Nat)→Nat→Option Nat
 |[],_=>none
 |(k,i)::r,x=>if x=k then some i else fwd r x
def inv:List (Nat×Nat)→Nat→Option Nat
 |[],_=>none
 |(k,i)::r,x=>if x=i then some k else inv r x
theorem eO {ML:List (Nat×Nat)} {k i:Nat} (h:fwd ML k=some i):(k,i)∈ML:=by
 induction ML with
 |nil=>simp [fwd]at h
 |cons p r ih=>
  obtain⟨a,b⟩:=p
  simp only [fwd]at h
  split at h
  ·rename_i e;subst e;simp at h;subst h;simp
  ·exact List.mem_cons_of_mem _ (ih h)
theorem sC {ML:List (Nat×Nat)} {k i:Nat} (h:inv ML i=some k):(k,i)∈ML:=by
 induction ML with
 |nil=>simp [inv]at h
 |cons p r ih=>
  obtain⟨a,b⟩:=p
  simp only [inv]at h
  split at h
  ·rename_i e;subst e;simp at h;subst h;simp
  ·exact List.mem_cons_of_mem _ (ih h)
theorem iG {ML:List (Nat×Nat)} (hn:(ML.map (·.1)).Nodup) {k i:Nat} (h:(k,i)∈ML):fwd ML k=some i:=by
 induction ML with
 |nil=>simp at h
 |cons p r ih=>
  obtain⟨a,b⟩:=p
  simp only [List.map_cons,List.nodup_cons]at hn
  simp only [fwd]
  rcases List.mem_cons.1 h with h|h
  ·simp only [Prod.mk.injEq]at h;simp [h.1,h.2]
  ·have:k≠a:=fun e=>hn.1 (e▸List.mem_map.2 ⟨(k,i),h,rfl⟩)
   simp [this,ih hn.2 h]
theorem fT {ML:List (Nat×Nat)} (hn:(ML.map (·.2)).Nodup) {k i:Nat} (h:(k,i)∈ML):inv ML i=some k:=by
 induction ML with
 |nil=>simp at h
 |cons p r ih=>
  obtain⟨a,b⟩:=p
  simp only [List.map_cons,List.nodup_cons]at hn
  simp only [inv]
  rcases List.mem_cons.1 h with h|h
  ·simp only [Prod.mk.injEq]at h;simp [h.1,h.2]
  ·have:i≠b:=fun e=>hn.1 (e▸List.mem_map.2 ⟨(k,i),h,rfl⟩)
   simp [this,ih hn.2 h]
theorem aDC {ML:List (Nat×Nat)} {i:Nat} (h:i∉ML.map (·.2)):inv ML i=none:=by
 cases hi:inv ML i with
 |none=>rfl
 |some k=>exact absurd (List.mem_map.2 ⟨_,sC hi,rfl⟩) h
structure Rn where
 ML:List (Nat×Nat)
 cv1:Nat→Nat
 nv:Nat→Nat
 vt:List (Nat×Nat)
def vU (R:Rn):List (Nat×Nat)→Option (List (Nat×Nat))
 |[]=>some []
 |(k,cv)::r=>match fwd R.ML k with
  |some i=>if cv=R.cv1 k then(vU R r).map fun l=>(i,R.nv i)::l else none
  |none=>none
mutual
def Sv.ren (R:Rn):Sv→Sv
 | .dead=> .dead
 | .v x=> .v x
 | .bor ts d=>match vU R ts with|some ts'=> .bor (R.vt++ts') d|none=> .dead
 | .bptr ts ds=>match vU R ts with|some ts'=> .bptr (R.vt++ts') ds|none=> .dead
 | .sl k=>match fwd R.ML k with|some i=> .sl i|none=> .dead
 | .ptr k o=>match fwd R.ML k with|some i=> .ptr i o|none=> .dead
 | .bsl k n=>match fwd R.ML k with|some i=> .bsl i n|none=> .dead
 | .agg l=> .agg (Sv.renL R l)
 | .tup l=> .tup (Sv.renL R l)
 | .fn f l=> .fn f (Sv.renL R l)
def Sv.renL (R:Rn):List Sv→List Sv
 |[]=>[]
 |s::l=>Sv.ren R s::Sv.renL R l
end
def Rk.ren (R:Rn):Rk→Rk
 | .gone=> .gone
 | .box cells=> .box (Sv.renL R cells)
 | .arr d=> .arr d
 | .hol d hs=> .hol d (hs.map fun q=>(q.1,q.2.ren R))
 | .bx cells k d=> .bx (Sv.renL R cells) k d
 | .ab p=> .ab p
def Sv.view0 (V:List Nat) (rs:Nat→Rs) (s:Sv) (d:Dt):Prop:=
 match s with
 | .v x=>d= .v x∨(x= .slice none 0 0∧∃sz df,0<sz∧d= .sl sz df [])
 | .bor ts d'=>d'=d∧gI rs ts∧∀p∈ts,p.1∈V
 | .bptr ts ds'=>∃ds,d= .pt ds∧ds'.take ds.length=ds∧gI rs ts∧∀p∈ts,p.1∈V
 | .sl i=>i∈V∧(rs i).k= .arr d
 |_=>False
def dD (V:List Nat) (rs:Nat→Rs):List Sv→List Dt→Prop
 |[],ds=>ds=[]
 |s::l,ds=>∃d r,ds=d::r∧s.view0 V rs d∧dD V rs l r
def Sv.view (V:List Nat) (rs:Nat→Rs) (s:Sv) (d:Dt):Prop:=
 match s with
 | .bsl i n=>i∈V∧∃cells cs sz df,(rs i).k= .box cells∧d= .sl sz df cs∧0<sz∧n*sz=cs.length∧n≤maxLen∧dD V rs cells cs
 |s=>s.view0 V rs d
def Sv.viewP (V:List Nat) (rs:Nat→Rs) (s:Sv) (ds:List Dt):Prop:=
 match s with
 | .bptr ts ds'=>ds'.take ds.length=ds∧gI rs ts∧∀p∈ts,p.1∈V
 | .ptr i o=>i∈V∧((∃cells,(rs i).k= .box cells∧dD V rs ((cells.drop o).take ds.length) ds)∨(∃sz df cs,(rs i).k= .arr (.sl sz df cs)∧(cs.drop o).take ds.length=ds))
 |_=>False
mutual
def Sv.mt (ML:List (Nat×Nat)) (V:List Nat) (rs rs0:Nat→Rs):Sv→Sv→Prop
 |a, .bor ts d=>ts=[]∧a.one=true∧a.view V rs d
 |a, .bptr ts ds=>ts=[]∧a.viewP V rs ds
 | .agg l, .agg l'=>Sv.mtL ML V rs rs0 l l'
 | .tup l, .tup l'=>Sv.mtL ML V rs rs0 l l'
 | .fn f l, .fn f' l'=>f=f'∧Sv.mtL ML V rs rs0 l l'
 | .v x, .v y=>x=y
 | .sl i, .sl k=>fwd ML k=some i∧1≤(rs0 k).cv
 | .ptr i o, .ptr k o'=>fwd ML k=some i∧1≤(rs0 k).cv∧o=o'
 | .bsl i n, .bsl k n'=>fwd ML k=some i∧1≤(rs0 k).cv∧n=n'
 |_, .dead=>True
 |_,_=>False
def Sv.mtL (ML:List (Nat×Nat)) (V:List Nat) (rs rs0:Nat→Rs):List Sv→List Sv→Prop
 |[],[]=>True
 |a::l,b::m=>Sv.mt ML V rs rs0 a b∧Sv.mtL ML V rs rs0 l m
 |_,_=>False
end
def Rk.mt (ML:List (Nat×Nat)) (V:List Nat) (rs rs0:Nat→Rs):Rk→Rk→Prop
 | .gone, .gone=>True
 | .box l, .box m=>Sv.mtL ML V rs rs0 l m
 | .arr d, .arr d'=>d=d'
 | .ab p, .ab p'=>p=p'
 | .bx l k d, .bx m k' d'=>Sv.mtL ML V rs rs0 l m∧k=k'∧d=d'
 |_,_=>False
section
variable {w:World} {S:Nat→Prop} {c:Nat→Cn} {rs rs0:Nat→Rs} {ML:List (Nat×Nat)} {V:List Nat}
def SV (S:Nat→Prop) (c:Nat→Cn) (V:List Nat):Nat→Prop:=fun b=>S b∨∃i∈V,(c i).fp b
theorem aFo {ts:List (Nat×Nat)} (h:∀p∈ts,p.1∈V):∀b,Reg S c ts b→SV S c V b:=fun _ hb=>
 hb.elim .inl fun⟨p,hp,hb⟩=> .inr ⟨p.1,h p hp,hb⟩
theorem aAI {w0:World} {U:Nat→Prop} (hp:Hp w0 U S c rs w) {s:Sv} {d:Dt} {u:Value} (h:s.view0 V rs d) (k:s.ok w S c rs u):RdV w (SV S c V) d u:=by
 cases s with
 |v x=>
  simp only [Sv.ok]at k
  subst k
  simp only [Sv.view0]at h
  rcases h with rfl|⟨rfl,sz,df,h0,rfl⟩
  ·simp [RdV]
  ·simp [RdV,h0]
 |bor ts d'=>
  simp only [Sv.view0]at h
  simp only [Sv.ok]at k
  obtain⟨rfl,h1,h2⟩:=h
  exact RdV.mono (aFo h2) _ _ (k.2.2 h1)
 |bptr ts ds'=>
  simp only [Sv.view0]at h
  simp only [Sv.ok]at k
  obtain⟨ds,rfl,h0,h1,h2⟩:=h
  have h3:=PtrTo.mono (aFo h2) (k.2.2 h1)
  have h4:=PtrTo.take ds.length h3
  rw [h0]at h4
  simp only [RdV]
  exact h4
 |sl i=>
  simp only [Sv.view0]at h
  simp only [Sv.ok]at k
  have h3:=hp.res i
  rw [h.2]at h3
  rw [k.2]
  exact RdV.mono (fun b hb=> .inr ⟨i,h.1,hb⟩) _ _ (OwV.rd _ _ h3.1)
 |_=>simp [Sv.view0]at h
theorem uO {w0:World} {U:Nat→Prop} (hp:Hp w0 U S c rs w):∀{l:List Sv} {ds:List Dt} {us:List Value},dD V rs l ds→Sv.okL w S c rs l us→RdL w (SV S c V) ds us
 |[],ds,us,h,k=>by simp [dD]at h;simp [Sv.okL]at k;subst h;subst k;simp [RdL]
 |s::l,ds,us,h,k=>by
  simp only [dD]at h
  simp only [Sv.okL]at k
  obtain⟨d,r,rfl,h1,h2⟩:=h
  obtain⟨x,q,rfl,k1,k2⟩:=k
  simp only [RdL]
  exact⟨x,q,rfl,aAI hp h1 k1,uO hp h2 k2⟩
theorem aNk {w0:World} {U:Nat→Prop} (hp:Hp w0 U S c rs w) {s:Sv} {d:Dt} {u:Value} (h:s.view V rs d) (k:s.ok w S c rs u):RdV w (SV S c V) d u:=by
 by_cases hb:∃i n,s= .bsl i n
 ·obtain⟨i,n,rfl⟩:=hb
  simp only [Sv.view]at h
  simp only [Sv.ok]at k
  obtain⟨h1,cells,cs,sz,df,h2,rfl,h3,h4,h4',h5⟩:=h
  have h6:=hp.res i
  rw [h2]at h6
  obtain⟨h7,cur,e,h8,h9⟩:=h6
  have h10:=uO hp h5 h9
  simp only [RdV]
  refine⟨h3, .inr ⟨(c i).blk,0,none,n,n,cur.toList,k.2,h4,Nat.le_refl _,h4',fun _=>⟨rfl, .inr ⟨i,h1,h7⟩⟩,h10,fun j x hj=>?_⟩⟩
  simp [World.cell?,h8];simpa using hj
 ·have:s.view0 V rs d:=by
   cases s<;>first|exact h|exact absurd ⟨_,_,rfl⟩ hb
  exact aAI hp this k
theorem aLv {w0:World} {U:Nat→Prop} (hp:Hp w0 U S c rs w) {s:Sv} {ds:List Dt} {u:Value} (h:s.viewP V rs ds) (k:s.ok w S c rs u):PtrTo w (SV S c V) ds u∧u.oneCell'=true:=by
 cases s with
 |bptr ts ds'=>
  simp only [Sv.viewP]at h
  simp only [Sv.ok]at k
  obtain⟨h0,h1,h2⟩:=h
  have h3:=PtrTo.mono (aFo h2) (k.2.2 h1)
  have h4:=PtrTo.take ds.length h3
  rw [h0]at h4
  exact⟨h4,k.2.1⟩
 |ptr i o=>
  simp only [Sv.viewP]at h
  simp only [Sv.ok]at k
  rw [k.2]
  refine⟨?_,rfl⟩
  obtain⟨h1,⟨cells,h2,h3⟩|⟨sz,df,cs,h2,h3⟩⟩:=h
  ·have h6:=hp.res i
   rw [h2]at h6
   obtain⟨h7,cur,e,h8,h9⟩:=h6
   have h10:=uO hp h3 (Sv.okL.slice cells cur.toList o ds.length h9)
   refine⟨(c i).blk,o,_,rfl,fun _=> .inr ⟨i,h1,h7⟩,h10,fun j x hj=>?_⟩
   rw [List.getElem?_take]at hj
   split at hj
   ·rw [List.getElem?_drop]at hj;simp [World.cell?,h8];simpa using hj
   ·cases hj
  ·have h6:=hp.res i
   rw [h2]at h6
   have h6':Rk.ok w S c rs (c i) (.arr (.sl sz df cs)):=h6
   obtain⟨_,vs,h7,h8⟩:=tI h6'
   have h9:=RdL.slice cs vs o ds.length h7
   rw [h3]at h9
   refine⟨(c i).blk,o,_,rfl,fun hne=> .inr ⟨i,h1,?_⟩,RdL.mono (fun b hb=> .inr ⟨i,h1,hb⟩) _ _ h9,fun j x hj=>?_⟩
   ·obtain⟨h10,h11⟩:=h6'
    simp only [OwV]at h10
    rcases h10.2 with⟨_,rfl⟩|⟨g,n,cap,cur,e,e1,e2,e3,e4,e5,e6⟩
    ·simp at h3;exact absurd h3 hne
    ·have:=h11 _ _ _ e1
     simp at this
     subst this
     exact e5
   ·rw [List.getElem?_take]at hj
    split at hj
    ·rw [List.getElem?_drop]at hj;exact h8 _ _ hj
    ·cases hj
 |_=>simp [Sv.viewP]at h
theorem aAC (rs:Nat→Rs):vN rs []:=fun p hp=>by simp at hp
theorem oV (rs:Nat→Rs):gI rs []:=fun p hp=>by simp at hp
def cnM (c:Nat→Cn) (ML:List (Nat×Nat)) (rs0:Nat→Rs):Nat→Cn:=fun k=>
 if 1≤(rs0 k).cv then(match fwd ML k with|some i=>c i|none=>⟨0, .slice none 0 0,fun _=>False⟩)else⟨0, .slice none 0 0,fun _=>False⟩
theorem aGz {S:Nat→Prop} {c:Nat→Cn}:∀b,S b→Reg S c [] b:=fun _ h=> .inl h
mutual
theorem Sv.mt_ok {w0:World} {U:Nat→Prop} (hp:Hp w0 U S c rs w):∀(a e:Sv) (u:Value),Sv.mt ML V rs rs0 a e→a.ok w S c rs u→e.ok w (SV S c V) (cnM c ML rs0) rs0 u
 |a, .bor ts d,u,h,k=>by
  simp only [Sv.mt]at h
  obtain⟨rfl,h1,h2⟩:=h
  simp only [Sv.ok]
  exact⟨aAC _,Sv.one_ok hp.one h1 k,fun _=>RdV.mono aGz _ _ (aNk hp h2 k)⟩
 |a, .bptr ts ds,u,h,k=>by
  simp only [Sv.mt]at h
  obtain⟨rfl,h2⟩:=h
  simp only [Sv.ok]
  obtain⟨h3,h4⟩:=aLv hp h2 k
  exact⟨aAC _,h4,fun _=>PtrTo.mono aGz h3⟩
 | .agg l, .agg l',u,h,k=>by
  simp only [Sv.mt]at h
  simp only [Sv.ok]at k⊢
  obtain⟨vs,rfl,k⟩:=k
  exact⟨vs,rfl,Sv.mtL_ok hp l l' vs h k⟩
 | .tup l, .tup l',u,h,k=>by
  simp only [Sv.mt]at h
  simp only [Sv.ok]at k⊢
  obtain⟨vs,rfl,k⟩:=k
  exact⟨vs,rfl,Sv.mtL_ok hp l l' vs h k⟩
 | .fn f l, .fn f' l',u,h,k=>by
  simp only [Sv.mt]at h
  obtain⟨rfl,h⟩:=h
  simp only [Sv.ok]at k⊢
  obtain⟨vs,rfl,k⟩:=k
  exact⟨vs,rfl,Sv.mtL_ok hp l l' vs h k⟩
 | .v x, .v y,u,h,k=>by
  simp only [Sv.mt]at h
  subst h
  simpa [Sv.ok]using k
 | .sl i, .sl j,u,h,k=>by
  simp only [Sv.mt]at h
  simp only [Sv.ok]at k⊢
  exact⟨h.2,by simp [cnM,h.1,h.2,k.2]⟩
 | .ptr i o, .ptr j o',u,h,k=>by
  simp only [Sv.mt]at h
  simp only [Sv.ok]at k⊢
  obtain⟨h1,h2,rfl⟩:=h
  exact⟨h2,by simp [cnM,h1,h2,k.2]⟩
 | .bsl i n, .bsl j n',u,h,k=>by
  simp only [Sv.mt]at h
  simp only [Sv.ok]at k⊢
  obtain⟨h1,h2,rfl⟩:=h
  exact⟨h2,by simp [cnM,h1,h2,k.2]⟩
 |a, .dead,u,_,_=>by simp [Sv.ok]
 | .dead, .v _,_,h,_=>by simp [Sv.mt]at h
 | .dead, .sl _,_,h,_=>by simp [Sv.mt]at h
 | .dead, .ptr _ _,_,h,_=>by simp [Sv.mt]at h
 | .dead, .bsl _ _,_,h,_=>by simp [Sv.mt]at h
 | .dead, .agg _,_,h,_=>by simp [Sv.mt]at h
 | .dead, .tup _,_,h,_=>by simp [Sv.mt]at h
 | .dead, .fn _ _,_,h,_=>by simp [Sv.mt]at h
 | .v _, .sl _,_,h,_=>by simp [Sv.mt]at h
 | .v _, .ptr _ _,_,h,_=>by simp [Sv.mt]at h
 | .v _, .bsl _ _,_,h,_=>by simp [Sv.mt]at h
 | .v _, .agg _,_,h,_=>by simp [Sv.mt]at h
 | .v _, .tup _,_,h,_=>by simp [Sv.mt]at h
 | .v _, .fn _ _,_,h,_=>by simp [Sv.mt]at h
 | .bor _ _, .v _,_,h,_=>by simp [Sv.mt]at h
 | .bor _ _, .sl _,_,h,_=>by simp [Sv.mt]at h
 | .bor _ _, .ptr _ _,_,h,_=>by simp [Sv.mt]at h
 | .bor _ _, .bsl _ _,_,h,_=>by simp [Sv.mt]at h
 | .bor _ _, .agg _,_,h,_=>by simp [Sv.mt]at h
 | .bor _ _, .tup _,_,h,_=>by simp [Sv.mt]at h
 | .bor _ _, .fn _ _,_,h,_=>by simp [Sv.mt]at h
 | .bptr _ _, .v _,_,h,_=>by simp [Sv.mt]at h
 | .bptr _ _, .sl _,_,h,_=>by simp [Sv.mt]at h
 | .bptr _ _, .ptr _ _,_,h,_=>by simp [Sv.mt]at h
 | .bptr _ _, .bsl _ _,_,h,_=>by simp [Sv.mt]at h
 | .bptr _ _, .agg _,_,h,_=>by simp [Sv.mt]at h
 | .bptr _ _, .tup _,_,h,_=>by simp [Sv.mt]at h
 | .bptr _ _, .fn _ _,_,h,_=>by simp [Sv.mt]at h
 | .sl _, .v _,_,h,_=>by simp [Sv.mt]at h
 | .sl _, .ptr _ _,_,h,_=>by simp [Sv.mt]at h
 | .sl _, .bsl _ _,_,h,_=>by simp [Sv.mt]at h
 | .sl _, .agg _,_,h,_=>by simp [Sv.mt]at h
 | .sl _, .tup _,_,h,_=>by simp [Sv.mt]at h
 | .sl _, .fn _ _,_,h,_=>by simp [Sv.mt]at h
 | .ptr _ _, .v _,_,h,_=>by simp [Sv.mt]at h
 | .ptr _ _, .sl _,_,h,_=>by simp [Sv.mt]at h
 | .ptr _ _, .bsl _ _,_,h,_=>by simp [Sv.mt]at h
 | .ptr _ _, .agg _,_,h,_=>by simp [Sv.mt]at h
 | .ptr _ _, .tup _,_,h,_=>by simp [Sv.mt]at h
 | .ptr _ _, .fn _ _,_,h,_=>by simp [Sv.mt]at h
 | .bsl _ _, .v _,_,h,_=>by simp [Sv.mt]at h
 | .bsl _ _, .sl _,_,h,_=>by simp [Sv.mt]at h
 | .bsl _ _, .ptr _ _,_,h,_=>by simp [Sv.mt]at h
 | .bsl _ _, .agg _,_,h,_=>by simp [Sv.mt]at h
 | .bsl _ _, .tup _,_,h,_=>by simp [Sv.mt]at h
 | .bsl _ _, .fn _ _,_,h,_=>by simp [Sv.mt]at h
 | .agg _, .v _,_,h,_=>by simp [Sv.mt]at h
 | .agg _, .sl _,_,h,_=>by simp [Sv.mt]at h
 | .agg _, .ptr _ _,_,h,_=>by simp [Sv.mt]at h
 | .agg _, .bsl _ _,_,h,_=>by simp [Sv.mt]at h
 | .agg _, .tup _,_,h,_=>by simp [Sv.mt]at h
 | .agg _, .fn _ _,_,h,_=>by simp [Sv.mt]at h
 | .tup _, .v _,_,h,_=>by simp [Sv.mt]at h
 | .tup _, .sl _,_,h,_=>by simp [Sv.mt]at h
 | .tup _, .ptr _ _,_,h,_=>by simp [Sv.mt]at h
 | .tup _, .bsl _ _,_,h,_=>by simp [Sv.mt]at h
 | .tup _, .agg _,_,h,_=>by simp [Sv.mt]at h
 | .tup _, .fn _ _,_,h,_=>by simp [Sv.mt]at h
 | .fn _ _, .v _,_,h,_=>by simp [Sv.mt]at h
 | .fn _ _, .sl _,_,h,_=>by simp [Sv.mt]at h
 | .fn _ _, .ptr _ _,_,h,_=>by simp [Sv.mt]at h
 | .fn _ _, .bsl _ _,_,h,_=>by simp [Sv.mt]at h
 | .fn _ _, .agg _,_,h,_=>by simp [Sv.mt]at h
 | .fn _ _, .tup _,_,h,_=>by simp [Sv.mt]at h
theorem Sv.mtL_ok {w0:World} {U:Nat→Prop} (hp:Hp w0 U S c rs w):∀(l m:List Sv) (us:List Value),Sv.mtL ML V rs rs0 l m→Sv.okL w S c rs l us→Sv.okL w (SV S c V) (cnM c ML rs0) rs0 m us
 |[],[],us,_,k=>by simpa [Sv.okL]using k
 |a::l,b::m,us,h,k=>by
  simp only [Sv.mtL]at h
  simp only [Sv.okL]at k⊢
  obtain⟨x,r,rfl,k1,k2⟩:=k
  exact⟨x,r,rfl,Sv.mt_ok hp a b x h.1 k1,Sv.mtL_ok hp l m r h.2 k2⟩
 |[],_::_,_,h,_=>by simp [Sv.mtL]at h
 |_::_,[],_,h,_=>by simp [Sv.mtL]at h
end
theorem Rk.mt_ok {w0:World} {U:Nat→Prop} (hp:Hp w0 U S c rs w) (n:Cn):∀(a e:Rk),Rk.mt ML V rs rs0 a e→a.ok w S c rs n→e.ok w (SV S c V) (cnM c ML rs0) rs0 n
 | .gone, .gone,_,k=>k
 | .box l, .box m,h,k=>by
  obtain⟨k1,cur,e,k2,k3⟩:=k
  exact⟨k1,cur,e,k2,Sv.mtL_ok hp l m _ h k3⟩
 | .arr d, .arr d',h,k=>by
  have h':d=d':=h
  subst h'
  exact k
 | .ab p, .ab p',h,k=>by
  have h':p=p':=h
  subst h'
  exact k
 | .bx l k d, .bx m k' d',h,q=>by
  obtain⟨h1,rfl,rfl⟩:=h
  obtain⟨k1,cur,e,F,x,k2,k3,k4,k5,k6⟩:=q
  exact⟨k1,cur,e,F,x,k2,Sv.mtL_ok hp l m _ h1 k3,k4,k5,k6⟩
 | .hol _ _,e,h,_=>by cases e<;>exact(h:False).elim
 | .bx _ _ _, .gone,h,_=>h.elim
 | .bx _ _ _, .box _,h,_=>h.elim
 | .bx _ _ _, .arr _,h,_=>h.elim
 | .bx _ _ _, .hol _ _,h,_=>h.elim
 | .bx _ _ _, .ab _,h,_=>h.elim
 | .gone, .bx _ _ _,h,_=>h.elim
 | .box _, .bx _ _ _,h,_=>h.elim
 | .arr _, .bx _ _ _,h,_=>h.elim
 | .ab _, .bx _ _ _,h,_=>h.elim
 | .gone, .hol _ _,h,_=>h.elim
 | .box _, .hol _ _,h,_=>h.elim
 | .arr _, .hol _ _,h,_=>h.elim
 | .ab _, .hol _ _,h,_=>h.elim
 | .gone, .box _,h,_=>h.elim
 | .gone, .arr _,h,_=>h.elim
 | .gone, .ab _,h,_=>h.elim
 | .box _, .gone,h,_=>h.elim
 | .box _, .arr _,h,_=>h.elim
 | .box _, .ab _,h,_=>h.elim
 | .arr _, .gone,h,_=>h.elim
 | .arr _, .box _,h,_=>h.elim
 | .arr _, .ab _,h,_=>h.elim
 | .ab _, .gone,h,_=>h.elim
 | .ab _, .box _,h,_=>h.elim
 | .ab _, .arr _,h,_=>h.elim
end
end Go.Eng
end
section
namespace Go.Eng
open Go
def aF (P:Program) (f:FuncId):Prop:=∃fn,P.funcs[f]? =some fn∧fn.body.isNone=false∧(fn.name== "runtime.NumGoroutine")=false
theorem jG {P:Program} {f:FuncId} (h:aF P f) (args:Array Value) (w:World):(callFunc f args).run P w= .ok (.enter f args) w:=by
 obtain⟨fn,h1,h2,h3⟩:=h
 have h3':¬fn.name= "runtime.NumGoroutine" :=by simpa using h3
 cases hb:fn.body with
 |none=>rw [hb]at h2;cases h2
 |some b=>simp [callFunc,program,Sem.run,h1,h3',hb]
structure RenOk (S S':Nat→Prop) (c1 c2:Nat→Cn) (rs1 rs2:Nat→Rs) (R:Rn):Prop where
 cv:∀p∈R.ML,(rs2 p.2).cv=R.nv p.2∧1≤R.nv p.2∧(rs1 p.1).cv=R.cv1 p.1
 al:∀p∈R.ML,(rs2 p.2).alive→(rs1 p.1).alive
 cn:∀p∈R.ML,(c2 p.2).blk=(c1 p.1).blk∧(c2 p.2).hdr=(c1 p.1).hdr∧∀b,(c1 p.1).fp b→(c2 p.2).fp b
 vb:vN rs2 R.vt
 s:∀b,S' b→Reg S c2 R.vt b
section
variable {w:World} {S S':Nat→Prop} {c1 c2:Nat→Cn} {rs1 rs2:Nat→Rs} {R:Rn}
theorem aGB (x:RenOk S S' c1 c2 rs1 rs2 R):∀{ts ts':List (Nat×Nat)},vU R ts=some ts'→vN rs2 (R.vt++ts'):=by
 have key:∀{ts ts':List (Nat×Nat)},vU R ts=some ts'→∀p∈ts',1≤p.2∧p.2≤(rs2 p.1).cv:=by
  intro ts
  induction ts with
  |nil=>intro ts' h p hp;simp [vU]at h;subst h;simp at hp
  |cons q r ih=>
   intro ts' h p hp
   obtain⟨k,cv⟩:=q
   simp only [vU]at h
   split at h
   ·rename_i i hi
    split at h
    ·simp only [Option.map_eq_some_iff]at h
     obtain⟨l,h1,rfl⟩:=h
     rcases List.mem_cons.1 hp with rfl|hp'
     ·have h3:=x.cv (k,i) (eO hi)
      simp only at h3⊢
      exact⟨h3.2.1,by rw [h3.1];exact Nat.le_refl _⟩
     ·exact ih h1 p hp'
    ·cases h
   ·cases h
 intro ts ts' h p hp
 rcases List.mem_append.1 hp with hp|hp
 ·exact x.vb p hp
 ·exact key h p hp
theorem aKz (x:RenOk S S' c1 c2 rs1 rs2 R):∀{ts ts':List (Nat×Nat)},vU R ts=some ts'→gI rs2 (R.vt++ts')→gI rs1 ts∧∀b,(∃p∈ts,(c1 p.1).fp b)→∃p∈ts',(c2 p.1).fp b:=by
 intro ts ts' h hb
 induction ts generalizing ts' with
 |nil=>simp [vU]at h;subst h;exact⟨fun p hp=>by simp at hp,fun b hb=>by simp at hb⟩
 |cons q r ih=>
  obtain⟨k,cv⟩:=q
  simp only [vU]at h
  split at h
  ·rename_i i hi
   split at h
   ·rename_i hcv
    simp only [Option.map_eq_some_iff]at h
    obtain⟨l,h1,rfl⟩:=h
    obtain⟨i1,i2⟩:=ih h1 (fun p hp=>hb p (by
     rcases List.mem_append.1 hp with hp|hp
     ·simp [hp]
     ·simp [hp]))
    have h3:=x.cv (k,i) (eO hi)
    have h4:=x.al (k,i) (eO hi)
    have h5:=hb (i,R.nv i) (by simp)
    have h6:=x.cn (k,i) (eO hi)
    simp only at h3 h4 h5 h6
    refine⟨fun p hp=>?_,fun b hb=>?_⟩
    ·rcases List.mem_cons.1 hp with rfl|hp
     ·exact⟨by rw [h3.2.2];exact hcv.symm,h4 h5.2⟩
     ·exact i1 p hp
    ·obtain⟨p,hp,hf⟩:=hb
     rcases List.mem_cons.1 hp with rfl|hp
     ·exact⟨(i,R.nv i),by simp,h6.2.2 b hf⟩
     ·obtain⟨q,hq,hf⟩:=i2 b ⟨p,hp,hf⟩
      exact⟨q,by simp [hq],hf⟩
   ·cases h
  ·cases h
theorem aD1 (x:RenOk S S' c1 c2 rs1 rs2 R) {ts ts':List (Nat×Nat)} (h2:∀b,(∃p∈ts,(c1 p.1).fp b)→∃p∈ts',(c2 p.1).fp b):∀b,Reg S' c1 ts b→Reg S c2 (R.vt++ts') b:=by
 intro b hb
 rcases hb with hb|hb
 ·rcases x.s b hb with h3|⟨p,hp,h3⟩
  ·exact .inl h3
  ·exact .inr ⟨p,by simp [hp],h3⟩
 ·obtain⟨p,hp,h3⟩:=h2 b hb
  exact .inr ⟨p,by simp [hp],h3⟩
mutual
theorem Sv.ren_ok (x:RenOk S S' c1 c2 rs1 rs2 R):∀(s:Sv) (u:Value),s.ok w S' c1 rs1 u→(s.ren R).ok w S c2 rs2 u
 | .dead,u,_=>by simp [Sv.ren,Sv.ok]
 | .v y,u,k=>by simpa [Sv.ren,Sv.ok]using k
 | .bor ts d,u,k=>by
  simp only [Sv.ok]at k
  simp only [Sv.ren]
  split
  ·rename_i ts' h
   simp only [Sv.ok]
   refine⟨aGB x h,k.2.1,fun htv=>?_⟩
   obtain⟨h1,h2⟩:=aKz x h htv
   exact RdV.mono (aD1 x h2) _ _ (k.2.2 h1)
  ·simp [Sv.ok]
 | .bptr ts d,u,k=>by
  simp only [Sv.ok]at k
  simp only [Sv.ren]
  split
  ·rename_i ts' h
   simp only [Sv.ok]
   refine⟨aGB x h,k.2.1,fun htv=>?_⟩
   obtain⟨h1,h2⟩:=aKz x h htv
   exact PtrTo.mono (aD1 x h2) (k.2.2 h1)
  ·simp [Sv.ok]
 | .sl k,u,h=>by
  simp only [Sv.ok]at h
  simp only [Sv.ren]
  split
  ·rename_i i hi
   have h1:=x.cv _ (eO hi)
   have h2:=x.cn _ (eO hi)
   simp only at h1 h2
   simp only [Sv.ok]
   exact⟨by rw [h1.1];exact h1.2.1,by rw [h2.2.1];exact h.2⟩
  ·simp [Sv.ok]
 | .ptr k o,u,h=>by
  simp only [Sv.ok]at h
  simp only [Sv.ren]
  split
  ·rename_i i hi
   have h1:=x.cv _ (eO hi)
   have h2:=x.cn _ (eO hi)
   simp only at h1 h2
   simp only [Sv.ok]
   exact⟨by rw [h1.1];exact h1.2.1,by rw [h2.1];exact h.2⟩
  ·simp [Sv.ok]
 | .bsl k n,u,h=>by
  simp only [Sv.ok]at h
  simp only [Sv.ren]
  split
  ·rename_i i hi
   have h1:=x.cv _ (eO hi)
   have h2:=x.cn _ (eO hi)
   simp only at h1 h2
   simp only [Sv.ok]
   exact⟨by rw [h1.1];exact h1.2.1,by rw [h2.1];exact h.2⟩
  ·simp [Sv.ok]
 | .agg l,u,k=>by
  simp only [Sv.ren,Sv.ok]at k⊢
  obtain⟨vs,h1,h2⟩:=k
  exact⟨vs,h1,Sv.renL_ok x l vs h2⟩
 | .tup l,u,k=>by
  simp only [Sv.ren,Sv.ok]at k⊢
  obtain⟨vs,h1,h2⟩:=k
  exact⟨vs,h1,Sv.renL_ok x l vs h2⟩
 | .fn f l,u,k=>by
  simp only [Sv.ren,Sv.ok]at k⊢
  obtain⟨vs,h1,h2⟩:=k
  exact⟨vs,h1,Sv.renL_ok x l vs h2⟩
theorem Sv.renL_ok (x:RenOk S S' c1 c2 rs1 rs2 R):∀(l:List Sv) (us:List Value),Sv.okL w S' c1 rs1 l us→Sv.okL w S c2 rs2 (Sv.renL R l) us
 |[],us,k=>by simpa [Sv.renL,Sv.okL]using k
 |s::l,us,k=>by
  simp only [Sv.renL,Sv.okL]at k⊢
  obtain⟨y,r,rfl,k1,k2⟩:=k
  exact⟨y,r,rfl,Sv.ren_ok x s y k1,Sv.renL_ok x l r k2⟩
end
theorem aGf (R:Rn):∀(hs:List (Nat×Sv)) (p:Nat),hlk (hs.map fun q=>(q.1,q.2.ren R)) p=(hlk hs p).map (Sv.ren R)
 |[],_=>rfl
 |(k,s)::l,p=>by
  simp only [List.map_cons,hlk]
  split
  ·rfl
  ·exact aGf R l p
theorem aBW (x:RenOk S S' c1 c2 rs1 rs2 R) {hs:List (Nat×Sv)}:∀(ds:List Dt) (p:Nat) (F:Nat→Prop) (vs:List Value),OwH w S' c1 rs1 hs F p ds vs→OwH w S c2 rs2 (hs.map fun q=>(q.1,q.2.ren R)) F p ds vs
 |[],_,_,_,h=>h
 |d::ds,p,F,vs,h=>by
  simp only [OwH,aGf]at h⊢
  cases hk:hlk hs p with
  |some s=>
   rw [hk]at h
   obtain⟨y,r,h1,h2,h3⟩:=h
   exact⟨y,r,h1,Sv.ren_ok x _ _ h2,aBW x ds _ _ _ h3⟩
  |none=>
   rw [hk]at h
   obtain⟨y,r,F1,F2,h1,f1,f2,f3,h2,h3⟩:=h
   exact⟨y,r,F1,F2,h1,f1,f2,f3,h2,aBW x ds _ _ _ h3⟩
theorem Rk.ren_ok (x:RenOk S S' c1 c2 rs1 rs2 R) (n:Cn):∀(k:Rk),k.ok w S' c1 rs1 n→(k.ren R).ok w S c2 rs2 n
 | .gone,h=>h
 | .box cells,h=>by
  obtain⟨h1,cur,e,h2,h3⟩:=h
  exact⟨h1,cur,e,h2,Sv.renL_ok x _ _ h3⟩
 | .arr _,h=>h
 | .hol d hs,h=>by
  obtain⟨sz,df,cs,m,cap,cur,e,h1,h2,h3,h4,h5,h6,h7,h8,h9,h10⟩:=h
  exact⟨sz,df,cs,m,cap,cur,e,h1,h2,h3,h4,h5,h6,h7,h8,h9,aBW x _ _ _ _ h10⟩
 | .bx cells k d,h=>by
  obtain⟨h1,cur,e,F,y,h2,h3,h4,h5,h6⟩:=h
  exact⟨h1,cur,e,F,y,h2,Sv.renL_ok x _ _ h3,h4,h5,h6⟩
 | .ab _,h=>h
theorem Rk.ren_alive (k:Rk) (a b:Nat):(⟨a,k.ren R⟩:Rs).alive↔(⟨b,k⟩:Rs).alive:=by
 cases k<;>simp [Rk.ren,Rs.alive]
end
def cR (R:Rn) (rs1:Nat→Rs):List (Nat×Rs):=R.ML.map fun p=>(p.2,⟨R.nv p.2,(rs1 p.1).k.ren R⟩)
theorem aEx (rs rs1:Nat→Rs) (R:Rn):∀(ML:List (Nat×Nat)) (i:Nat),
  dC rs (ML.map fun p=>(p.2,(⟨R.nv p.2,(rs1 p.1).k.ren R⟩:Rs))) i=match inv ML i with|some k=>⟨R.nv i,(rs1 k).k.ren R⟩|none=>rs i
 |[],i=>by simp [dC,inv]
 |(k,j)::ML,i=>by
  simp only [List.map_cons,dC,upd,inv]
  by_cases e:i=j
  ·subst e;simp
  ·simp only [if_neg e];exact aEx rs rs1 R ML i
section
variable {X:Cx} {E:Env} {o:Oper} {tm:Nat→Sv} {rs:Nat→Rs}
structure CallOk (rs:Nat→Rs) (L0:List (Nat×Rs)) (ML:List (Nat×Nat)) (V:List Nat):Prop where
 n1:(ML.map (·.1)).Nodup
 n2:(ML.map (·.2)).Nodup
 vm:∀i∈V,i∉ML.map (·.2)
 va:∀i∈V,1≤(rs i).cv
 l0:∀k,(rsL L0 k).cv=0→rsL L0 k=⟨0, .gone⟩
 inn:∀k,1≤(rsL L0 k).cv→k∈ML.map (·.1)
 res:∀p∈ML,(1≤(rsL L0 p.1).cv∧1≤(rs p.2).cv∧Rk.mt ML V rs (rsL L0) (rs p.2).k (rsL L0 p.1).k)∨(rsL L0 p.1=⟨0, .gone⟩∧rs p.2=⟨0, .gone⟩)
def aU (rs rs1:Nat→Rs) (ML:List (Nat×Nat)) (V:List Nat):Rn:=⟨ML,fun k=>(rs1 k).cv,fun i=>if i∈ML.map (·.2)then(rs i).cv+1 else 0,V.map fun i=>(i,(rs i).cv)⟩
theorem rU {rs rs':Nat→Rs} (rs1:Nat→Rs) {ML:List (Nat×Nat)} {V:List Nat} (he:∀i∈V,rs' i=rs i) (hm:∀i∈ML.map (·.2),rs' i=rs i):aU rs' rs1 ML V=aU rs rs1 ML V:=by
 unfold aU
 congr 1
 ·funext i
  split
  ·rename_i h;rw [hm i h]
  ·rfl
 ·exact List.map_congr_left fun i hi=>by rw [he i hi]
theorem oF {w:World} {c:Nat→Cn} (hp:Hp X.w0 X.U X.S c rs w) {L0:List (Nat×Rs)} {ML:List (Nat×Nat)} {V:List Nat} (h:CallOk rs L0 ML V):
  Hp w (fun b=>b<w.heap.size∧∀k,¬(cnM c ML (rsL L0) k).fp b) (SV X.S c V) (cnM c ML (rsL L0)) (rsL L0) w:=by
 have hfp:∀k b,(cnM c ML (rsL L0) k).fp b→1≤(rsL L0 k).cv∧∃i,fwd ML k=some i∧(c i).fp b:=fun k b hb=>by
  unfold cnM at hb
  split at hb
  ·rename_i h1
   split at hb
   ·rename_i i hi;exact⟨h1,i,hi,hb⟩
   ·exact hb.elim
  ·exact hb.elim
 refine⟨rfl,rfl,rfl,Nat.le_refl _,Agree.refl _ _,fun b hb=>?_,fun b hb=>hb.1,fun k=>?_,fun k b hb=>?_,fun k b hb hU=>hU.2 k hb,fun k l b hkl hk hl=>?_,fun k=>?_⟩
 ·rcases hb with hb|⟨i,hi,hb⟩
  ·have hU:=hp.sub b hb
   exact⟨Nat.lt_of_lt_of_le (hp.ult b hU) hp.size,fun k hk=>by obtain⟨_,i,_,h2⟩:=hfp k b hk;exact hp.fu i b h2 hU⟩
  ·refine⟨hp.flt i b hb,fun k hk=>?_⟩
   obtain⟨_,j,h1,h2⟩:=hfp k b hk
   exact hp.dis i j b (fun e=>h.vm i hi (by rw [e];exact List.mem_map.2 ⟨_,eO h1,rfl⟩)) hb h2
 ·by_cases h1:1≤(rsL L0 k).cv
  ·obtain⟨p,hp1,hp2⟩:=List.mem_map.1 (h.inn k h1)
   obtain⟨k',i⟩:=p
   simp only at hp2
   subst hp2
   have hf:=iG h.n1 hp1
   rcases h.res _ hp1 with⟨_,_,h2⟩|⟨h2,_⟩
   ·have:=Rk.mt_ok hp (c i) _ _ h2 (hp.res i)
    simp only [cnM,h1,if_true,hf]
    exact this
   ·simp only at h2;rw [h2]at h1;simp at h1
  ·have h2:=h.l0 k (by omega)
   rw [h2]
   intro b hb
   exact h1 (hfp k b hb).1
 ·obtain⟨_,i,_,h2⟩:=hfp k b hb
  exact hp.flt i b h2
 ·obtain⟨_,i,h1,h2⟩:=hfp k b hk
  obtain⟨_,j,h3,h4⟩:=hfp l b hl
  refine hp.dis i j b (fun e=>?_) h2 h4
  subst e
  have h5:=fT h.n2 (eO h1)
  have h6:=fT h.n2 (eO h3)
  rw [h5]at h6
  exact hkl (by simpa using h6)
 ·unfold cnM
  split
  ·split
   ·exact hp.one _
   ·rfl
  ·rfl
theorem mB {w w':World} {c:Nat→Cn} (hp:Hp X.w0 X.U X.S c rs w) {L0:List (Nat×Rs)} {rs1:Nat→Rs} {ML:List (Nat×Nat)} {V:List Nat} (h:CallOk rs L0 ML V) (c1:Nat→Cn)
  (hp1:Hp w (fun b=>b<w.heap.size∧∀k,¬(cnM c ML (rsL L0) k).fp b) (SV X.S c V) c1 rs1 w')
  (hpin:∀i,1≤(rsL L0 i).cv→1≤(rs1 i).cv∧(c1 i).blk=(cnM c ML (rsL L0) i).blk∧(c1 i).hdr=(cnM c ML (rsL L0) i).hdr):
  ∃c2,Hp X.w0 X.U X.S c2 (dC rs (cR (aU rs rs1 ML V) rs1)) w'∧Ext X.S w w' c c2 rs (dC rs (cR (aU rs rs1 ML V) rs1))∧
   RenOk X.S (SV X.S c V) c1 c2 rs1 (dC rs (cR (aU rs rs1 ML V) rs1)) (aU rs rs1 ML V):=by
 have hrs:∀i,dC rs (cR (aU rs rs1 ML V) rs1) i=match inv ML i with|some k=>⟨(rs i).cv+1,(rs1 k).k.ren (aU rs rs1 ML V)⟩|none=>rs i:=fun i=>by
  have h0:=aEx rs rs1 (aU rs rs1 ML V) ML i
  refine h0.trans ?_
  split
  ·rename_i k hk
   have:i∈ML.map (·.2):=List.mem_map.2 ⟨_,sC hk,rfl⟩
   simp only [aU,if_pos this]
  ·rfl
 generalize dC rs (cR (aU rs rs1 ML V) rs1)=rs2 at hrs
 have hfp:∀k b,(cnM c ML (rsL L0) k).fp b→∃i,fwd ML k=some i∧(c i).fp b:=fun k b hb=>by
  unfold cnM at hb
  split at hb
  ·split at hb
   ·rename_i i hi;exact⟨i,hi,hb⟩
   ·exact hb.elim
  ·exact hb.elim
 let c2:Nat→Cn:=fun i=>match inv ML i with|some k=>c1 k|none=>c i
 have hc2:∀i k,inv ML i=some k→c2 i=c1 k:=fun i k hi=>by simp only [c2,hi]
 have hc2n:∀i,inv ML i=none→c2 i=c i:=fun i hi=>by simp only [c2,hi]
 have hU:∀b,X.U b→b<w.heap.size∧∀k,¬(cnM c ML (rsL L0) k).fp b:=fun b hb=>
  ⟨Nat.lt_of_lt_of_le (hp.ult b hb) hp.size,fun k hk=>by obtain⟨i,_,h2⟩:=hfp k b hk;exact hp.fu i b h2 hb⟩
 have hoth:∀i,inv ML i=none→∀b,(c i).fp b→b<w.heap.size∧∀k,¬(cnM c ML (rsL L0) k).fp b:=fun i hi b hb=>
  ⟨hp.flt i b hb,fun k hk=>by
   obtain⟨j,h1,h2⟩:=hfp k b hk
   refine hp.dis i j b (fun e=>?_) hb h2
   subst e
   rw [fT h.n2 (eO h1)]at hi
   cases hi⟩
 have hx:Ext X.S w w' c c2 rs rs2:=by
  refine⟨fun i=>?_,hp1.unch.mono fun b hb=>hU b (hp.sub b hb),fun i hi=>?_,fun i hi he ha=>?_⟩
  ·rw [hrs i];split<;>simp
  ·cases hk:inv ML i with
   |none=>rw [hc2n i hk];exact⟨rfl,rfl⟩
   |some k=>
    rw [hc2 i k hk]
    have hm:=sC hk
    rcases h.res _ hm with⟨h1,_,_⟩|⟨_,h2⟩
    ·have h3:=hpin k h1
     have h4:=iG h.n1 hm
     simp only at h1
     simp only [cnM,h1,if_true,h4]at h3
     exact h3.2
    ·simp only at h2;rw [h2]at hi;simp at hi
  ·rw [hrs i]at he ha
   cases hk:inv ML i with
   |none=>
    rw [hk]at ha
    rw [hc2n i hk]
    exact⟨ha,fun _ h=>h,hp1.unch.mono (hoth i hk)⟩
   |some k=>rw [hk]at he;simp at he
 have hren:RenOk X.S (SV X.S c V) c1 c2 rs1 rs2 (aU rs rs1 ML V):=by
  have hv:∀i∈V,rs2 i=rs i∧c2 i=c i:=fun i hi=>by
   have:=aDC (h.vm i hi)
   rw [hrs i,this,hc2n i this]
   exact⟨rfl,rfl⟩
  refine⟨fun p hm=>?_,fun p hm ha=>?_,fun p hm=>?_,fun p hp=>?_,fun b hb=>?_⟩
  ·have:=fT h.n2 hm
   have h9:p.2∈ML.map (·.2):=List.mem_map.2 ⟨p,hm,rfl⟩
   rw [hrs p.2,this]
   simp only [aU,if_pos h9]
   exact⟨trivial,by omega,trivial⟩
  ·have:=fT h.n2 hm
   rw [hrs p.2,this]at ha
   exact(Rk.ren_alive _ _ _).1 ha
  ·have:=fT h.n2 hm
   rw [hc2 p.2 p.1 this]
   exact⟨rfl,rfl,fun _ h=>h⟩
  ·simp only [aU,List.mem_map]at hp
   obtain⟨i,hi,rfl⟩:=hp
   simp only [(hv i hi).1]
   exact⟨h.va i hi,Nat.le_refl _⟩
  ·rcases hb with hb|⟨i,hi,hb⟩
   ·exact .inl hb
   ·exact .inr ⟨(i,(rs i).cv),List.mem_map.2 ⟨i,hi,rfl⟩,by simp only [(hv i hi).2];exact hb⟩
 refine⟨c2,⟨hp1.os.trans hp.os,hp1.tape.trans hp.tape,hp1.output.trans hp.output,Nat.le_trans hp.size hp1.size,hp.unch.trans (hp1.unch.mono hU),hp.sub,hp.ult,fun i=>?_,fun i b hb=>?_,fun i b hb hub=>?_,fun i j b hij hi hj=>?_,fun i=>?_⟩,hx,hren⟩
 ·rw [hrs i]
  cases hk:inv ML i with
  |none=>rw [hc2n i hk];exact Rk.ok_ext hx (hp1.unch.mono (hoth i hk)) _ (hp.res i)
  |some k=>rw [hc2 i k hk];exact Rk.ren_ok hren _ _ (hp1.res k)
 ·cases hk:inv ML i with
  |none=>rw [hc2n i hk]at hb;exact Nat.lt_of_lt_of_le (hp.flt i b hb) hp1.size
  |some k=>rw [hc2 i k hk]at hb;exact hp1.flt k b hb
 ·cases hk:inv ML i with
  |none=>rw [hc2n i hk]at hb;exact hp.fu i b hb hub
  |some k=>rw [hc2 i k hk]at hb;exact hp1.fu k b hb (hU b hub)
 ·cases hk:inv ML i with
  |none=>
   rw [hc2n i hk]at hi
   cases hl:inv ML j with
   |none=>rw [hc2n j hl]at hj;exact hp.dis i j b hij hi hj
   |some l=>rw [hc2 j l hl]at hj;exact hp1.fu l b hj (hoth i hk b hi)
  |some k=>
   rw [hc2 i k hk]at hi
   cases hl:inv ML j with
   |none=>rw [hc2n j hl]at hj;exact hp1.fu k b hi (hoth j hl b hj)
   |some l=>
    rw [hc2 j l hl]at hj
    refine hp1.dis k l b (fun e=>?_) hi hj
    subst e
    have h5:=iG h.n1 (sC hk)
    have h6:=iG h.n1 (sC hl)
    rw [h5]at h6
    exact hij (by simpa using h6)
 ·cases hk:inv ML i with
  |none=>rw [hc2n i hk];exact hp.one i
  |some k=>rw [hc2 i k hk];exact hp1.one k
theorem pJ {a:Act} {w:World} {c:Nat→Cn} (h:∀x,(opd tm x).ok w X.S c rs (a.eval x)):∀(xs:List Operand),Sv.okL w X.S c rs (xs.map (opd tm)) (xs.map a.eval)
 |[]=>by simp [Sv.okL]
 |x::xs=>by simp only [List.map_cons,Sv.okL];exact⟨_,_,rfl,h x,pJ h xs⟩
def aIl (P:Program) (l:Nat) (args:List Sv) (L0:List (Nat×Rs)) (r:Sv) (L1:List (Nat×Rs)) (H:(Nat→Cn)→Prop):Prop:=
 ∀(w0:World) (U S:Nat→Prop) (c0:Nat→Cn) (vs:List Value),H c0→Hp w0 U S c0 (rsL L0) w0→Sv.okL w0 S c0 (rsL L0) args vs→
  YieldAt Fence.wide 0 P l vs.toArray w0 fun e w'=>∃v c1,e= .returned v∧Hp w0 U S c1 (rsL L1) w'∧Sv.ok w' S c1 (rsL L1) r v∧
   (∀i,1≤(rsL L0 i).cv→1≤(rsL L1 i).cv∧(c1 i).blk=(c0 i).blk∧(c1 i).hdr=(c0 i).hdr)
theorem aFH (hdn:∀k,o.dst=some k→k<X.n) (x:Operand) (xs:List Operand) (tys:Array TypeId) (ho:o.op= .call {callee:= .value x,args:=xs.toArray,argTypes:=tys}) (l:Nat) (hx:opd tm x= .v (.func (.yield l) #[] #[]))
  (args:List Sv) (L0:List (Nat×Rs)) (r:Sv) (L1:List (Nat×Rs)) (H:(Nat→Cn)→Prop) (hs:aIl E.P l args L0 r L1 H) (ML:List (Nat×Nat)) (V:List Nat) (hco:CallOk rs L0 ML V)
  (hm:Sv.mtL ML V rs (rsL L0) (xs.map (opd tm)) args) (hH:∀c:Nat→Cn,(∀i,1≤(X.rs0 i).cv→(c i).blk=(X.c0 i).blk∧(c i).hdr=(X.c0 i).hdr)→H (cnM c ML (rsL L0))):
  bG X E.P o tm rs (r.ren (aU rs (rsL L1) ML V)) (cR (aU rs (rsL L1) ML V) (rsL L1)):=by
 rintro a w K Q ⟨hd,hn,c,hp,ht,hpin⟩ hK
 have hopd:=fun z=>bX (X:=X) (rs:=rs) (tm:=tm) (a:=a) (w:=w) (c:=c) ht z
 have hx1:=hopd x
 rw [hx]at hx1
 simp only [Sv.ok]at hx1
 have hargs:=Sv.mtL_ok (rs0:=rsL L0) (ML:=ML) (V:=V) hp _ _ _ hm (pJ hopd xs)
 obtain⟨fn,tmps,assign,body,hy,hR⟩:=hs w _ _ _ _ (hH c fun i hi=>(hpin i hi).2) (oF hp hco) hargs
 have hrun:(o.semAt X.F.round a.eval).run E.P w= .ok (.round l fn tmps assign body) w:=by
  rw [Oper.semAt_eq _ _ _ (fun c e=>by rw [ho]at e;cases e)]
  simp [execOp,ho,resolve,Deferred.ofValue,hx1,invoke]
  simpa using hy
 refine⟨fun f _=>X.F_fn f,?_⟩
 rw [hrun,Oper.uponIn_round]
 refine⟨fun e=>(by rw [X.F_depth]at e;cases e),?_⟩
 have hR':RoundIn X.F 0 E.P l fn tmps assign body w _:=hR
 refine hR'.mono fun e w' hh=>?_
 obtain⟨v,c1,rfl,hp1,hv,hpin1⟩:=hh
 obtain⟨c2,hp2,hx2,hren⟩:=mB hp hco c1 hp1 hpin1
 exact hK _ _ (bO hd hn ht hpin hx2 hp2 hdn (Sv.ren_ok hren _ _ hv))
theorem aH7 (hdn:∀k,o.dst=some k→k<X.n) (x:Operand) (xs:List Operand) (tys:Array TypeId) (ho:o.op= .call {callee:= .value x,args:=xs.toArray,argTypes:=tys}) (f:FuncId) (caps:List Sv) (hx:opd tm x= .fn f caps)
  (hf:aF E.P f) (args:List Sv) (L0:List (Nat×Rs)) (r:Sv) (L1:List (Nat×Rs)) (hs:Spec E.P f args L0 r L1) (ML:List (Nat×Nat)) (V:List Nat) (hco:CallOk rs L0 ML V)
  (hm:Sv.mtL ML V rs (rsL L0) (xs.map (opd tm)++caps) args):
  bG X E.P o tm rs (r.ren (aU rs (rsL L1) ML V)) (cR (aU rs (rsL L1) ML V) (rsL L1)):=by
 refine SStep0.inn ?_
 rintro a w K Q ⟨hd,hn,c,hp,ht,hpin⟩ hK
 have hopd:=fun z=>bX (X:=X) (rs:=rs) (tm:=tm) (a:=a) (w:=w) (c:=c) ht z
 have hx1:=hopd x
 rw [hx]at hx1
 simp only [Sv.ok]at hx1
 obtain⟨cvs,hx1,hx2⟩:=hx1
 have hargs:=Sv.mtL_ok (rs0:=rsL L0) (ML:=ML) (V:=V) hp _ _ _ hm ((pJ hopd xs).append hx2)
 have hcall:=hs w _ _ _ _ (oF hp hco) hargs
 unfold Oper.wp
 have hrun:(execOp a.eval o).run E.P w= .ok (.enter f (xs.map a.eval++cvs).toArray) w:=by
  simp [execOp,ho,resolve,Deferred.ofValue,hx1,invoke,jG hf]
 rw [hrun]
 refine hcall.mono fun e w' hh=>?_
 obtain⟨v,c1,rfl,hp1,hv,hpin1⟩:=hh
 obtain⟨c2,hp2,hx2,hren⟩:=mB hp hco c1 hp1 hpin1
 exact hK _ _ (bO hd hn ht hpin hx2 hp2 hdn (Sv.ren_ok hren _ _ hv))
end
end Go.Eng
end
section
namespace Go.Eng
open Go
theorem aBA (off:Nat):∀(l:List Value) (k:Nat) (cells:Array Value),off+k+l.length≤cells.size→
  ((l.zipIdx k).foldl (fun cs (p:Value×Nat)=>cs.setIfInBounds (off+p.2) p.1) cells).toList=putAt cells.toList (off+k) l
 |[],k,cells,_=>by simp [putAt]
 |x::r,k,cells,h=>by
  simp only [List.length_cons]at h
  simp only [List.zipIdx_cons,List.foldl_cons]
  rw [aBA off r (k+1) _ (by simp;omega)]
  have hk:off+k<cells.toList.length:=by simp;omega
  have e1:(cells.setIfInBounds (off+k) x).toList=cells.toList.set (off+k) x:=by simp
  rw [e1]
  unfold putAt
  have e2:(cells.toList.set (off+k) x).take (off+(k+1))=cells.toList.take (off+k)++[x]:=by
   rw [show off+(k+1)=off+k+1 from by omega,List.take_succ_eq_append_getElem (by simpa using hk)]
   simp [List.take_set_of_le]
  have e3:(cells.toList.set (off+k) x).drop (off+(k+1)+r.length)=cells.toList.drop (off+(k+1)+r.length):=by
   rw [List.drop_set_of_lt (by omega)]
  rw [e2,e3]
  simp only [List.append_assoc,List.singleton_append,List.length_cons]
  rw [show off+(k+1)+r.length=off+k+(r.length+1) from by omega]
def iC (fs:List (Nat×Nat)) (cs:List Sv) (K:List Sv→Prop):List (Nat×Sv)→Prop
 |[]=>K cs
 |(i,s)::r=>match fs[i]? with
  |none=>False
  |some (off,sz)=>s.cells.length=sz∧off+sz≤cs.length∧s.cells.all Sv.one=true∧iC fs (putAt cs off s.cells) K r
section
variable {X:Cx} {E:Env} {o:Oper} {tm:Nat→Sv} {rs:Nat→Rs}
theorem aHB {w:World} {S:Nat→Prop} {c:Nat→Cn} {l m:List Sv} {vs us:List Value} {p:Nat} (h:Sv.okL w S c rs l vs) (k:Sv.okL w S c rs m us):Sv.okL w S c rs (putAt l p m) (putAt vs p us):=by
 unfold putAt
 have h1:=Sv.okL.slice l vs 0 p h
 simp only [List.drop_zero]at h1
 have h2:=Sv.okL.slice l vs (p+m.length) l.length h
 have e1:(l.drop (p+m.length)).take l.length=l.drop (p+m.length):=List.take_of_length_le (by simp)
 have e2:(vs.drop (p+m.length)).take l.length=vs.drop (p+m.length):=List.take_of_length_le (by simp [h.length])
 rw [e1,e2]at h2
 rw [k.length]
 exact(h1.append k).append h2
theorem aCd {a:Act} {w:World} {c:Nat→Cn} (hp:Hp X.w0 X.U X.S c rs w) (ht:∀s,(tm s).ok w X.S c rs (a.tmps.getD s undef)) (fs:List (Nat×Nat)) {K:List Sv→Prop}:∀(ps:List (Nat×Operand)) (cs:List Sv) (us:Array Value),
  Sv.okL w X.S c rs cs us.toList→iC fs cs K (ps.map fun p=>(p.1,opd tm p.2))→
  ∃cs' us',Instr.fill (fun i=>fs[i]?) us (ps.map fun p=>(p.1,a.eval p.2))=some us'∧Sv.okL w X.S c rs cs' us'.toList∧K cs'
 |[],cs,us,h,hK=>⟨cs,us,rfl,h,hK⟩
 |(i,x)::ps,cs,us,h,hK=>by
  simp only [List.map_cons,iC]at hK
  split at hK
  ·exact hK.elim
  ·rename_i off sz hf
   obtain⟨h1,h2,h3,h4⟩:=hK
   have hc:=Sv.cells_ok hp.one h3 (bX ht x)
   have hl:=hc.1.length
   have hsz:(a.eval x).cells.size=sz:=by simp at hl;omega
   have hcs:cs.length=us.size:=by have:=h.length;simp at this;omega
   have hput:=aBA off (a.eval x).cells.toList 0 us (by rw [Array.length_toList];omega)
   simp only [Nat.add_zero]at hput
   have harr:((a.eval x).cells.zipIdx.foldl (fun cs (p:Value×Nat)=>cs.setIfInBounds (off+p.2) p.1) us)=(putAt us.toList off (a.eval x).cells.toList).toArray:=by
    apply Array.ext'
    rw [←hput]
    rw [←Array.foldl_toList]
    simp
   obtain⟨cs',us',g1,g2,g3⟩:=aCd hp ht fs ps _ (putAt us.toList off (a.eval x).cells.toList).toArray (by simpa using aHB (p:=off) h hc.1) h4
   refine⟨cs',us',?_,g2,g3⟩
   simp only [List.map_cons,Instr.fill,hf]
   rw [if_neg (by simp only [Bool.or_eq_true,decide_eq_true_eq];omega),harr]
   exact g1
theorem aFj {fa:Array Field} {fs:List (Nat×Nat)} {P:Program} (w:World) (h2:fa.toList.map (·.offset)=fs.map (·.1)) (h3:fa.toList.map (fun f=>((P.info? f.type).map (·.size)).getD 0)=fs.map (·.2)) (h4:fs.all (fun p=>p.2 !=0)=true):
  (fa.mapM fun f=>do pure (f.offset,←sizeOf f.type):Sem (Array (Nat×Nat))).run P w= .ok fs.toArray w:=by
 have key:∀(l:List Field) (fs:List (Nat×Nat)),l.map (·.offset)=fs.map (·.1)→l.map (fun f=>((P.info? f.type).map (·.size)).getD 0)=fs.map (·.2)→fs.all (fun p=>p.2 !=0)=true→
   (l.mapM fun f=>do pure (f.offset,←sizeOf f.type):Sem (List (Nat×Nat))).run P w= .ok fs w:=by
  intro l
  induction l with
  |nil=>intro fs h _ _;cases fs with
   |nil=>simp [Sem.run_pure]
   |cons _ _=>simp at h
  |cons f l ih=>
   intro fs h2 h3 h4
   cases fs with
   |nil=>simp at h2
   |cons p fs=>
    simp only [List.map_cons,List.cons.injEq]at h2 h3
    simp only [List.all_cons,Bool.and_eq_true]at h4
    have e:=ih fs h2.2 h3.2 h4.2
    cases hi:P.info? f.type with
    |none=>rw [hi]at h3;simp at h3 h4;exact absurd h3.1.symm h4.1
    |some inf=>
     rw [hi]at h3
     simp at h3
     have hs:(sizeOf f.type).run P w= .ok p.2 w:=by
      rw [←h3.1];simp [sizeOf,typeInfo,hi]
     simp only [List.mapM_cons,Sem.run_bind,Sem.run_pure,Result.andThen_ok,e,hs,h2.1]
 rw [Array.mapM_eq_mapM_toList]
 simp only [Sem.run_map,key _ _ h2 h3 h4]
 rfl
theorem aK4 (hdn:∀k,o.dst=some k→k<X.n) (t:TypeId) (parts:Array (Nat×Operand)) (ho:o.op= .build t parts) (fs:List (Nat×Nat)) (hk:(E.ti t).k= .st fs) (cells:List Sv)
  (hf:iC fs ((E.ti t).z.map Sv.v) (fun cs=>cs=cells) (parts.toList.map fun p=>(p.1,opd tm p.2))):bG X E.P o tm rs (.agg cells) []:=by
 refine SStep0.inn ?_
 rintro a w K Q ⟨hd,hn,c,hp,ht,hpin⟩ hK
 have h1:Sv.okL w X.S c rs ((E.ti t).z.map Sv.v) (E.ti t).z:=by
  generalize (E.ti t).z=l
  induction l with
  |nil=>simp [Sv.okL]
  |cons x r ih=>simp only [List.map_cons,Sv.okL];exact⟨x,r,rfl,by simp [Sv.ok],ih⟩
 obtain⟨inf,zv,g1,g2,g3,g4,g5⟩:=E.info t (by rw [Ti.known,hk])
 have:=E.ok t
 simp only [aR,hk]at this
 obtain⟨_,fa,q1,q2,q3,q4⟩:=this
 obtain⟨cs',us',r1,r2,rfl⟩:=aCd hp ht fs parts.toList _ zv.cells (by rw [g5];exact h1) hf
 have hrun:(execOp a.eval o).run E.P w= .ok (.value (.agg us')) w:=by
  have e1:((parts.map fun(i,x)=>(i,a.eval x)).toList)=parts.toList.map fun p=>(p.1,a.eval p.2):=by simp
  have e2:(fun i:Nat=>fs.toArray[i]?)=fun i=>fs[i]? :=by funext i;simp
  have hz:(zeroValue t).run E.P w= .ok zv w:=by simp [zeroValue,typeInfo,g1,g4]
  simp only [execOp,ho,Instr.build,Sem.run_bind,hz,run_underlying q1,Result.andThen_ok,aFj w q2 q3 q4,e1,e2,r1,Sem.run_pure]
 unfold Oper.wp
 rw [hrun]
 refine hK _ _ (bO hd hn ht hpin (Ext.refl _ _ _ _) hp hdn ?_)
 simp only [Sv.ok]
 exact⟨us'.toList,by simp,r2⟩
theorem aBo {p q:Nat→Option (Nat×Nat)} (h:∀i x,p i=some x→q i=some x):∀(ps:List (Nat×Value)) (us us':Array Value),Instr.fill p us ps=some us'→Instr.fill q us ps=some us'
 |[],us,us',e=>e
 |(i,v)::r,us,us',e=>by
  simp only [Instr.fill]at e⊢
  split at e
  ·cases e
  ·rename_i off sz hp
   rw [h _ _ hp]
   simp only
   split at e
   ·cases e
   ·rename_i hc
    rw [if_neg hc]
    exact aBo h r _ _ e
theorem aH6 (hdn:∀k,o.dst=some k→k<X.n) (t:TypeId) (parts:Array (Nat×Operand)) (ho:o.op= .build t parts) (n esz:Nat) (hk:(E.ti t).k= .ar n esz) (cells:List Sv)
  (hf:iC ((List.range n).map fun i=>(i*esz,esz)) ((E.ti t).z.map Sv.v) (fun cs=>cs=cells) (parts.toList.map fun p=>(p.1,opd tm p.2))):bG X E.P o tm rs (.agg cells) []:=by
 refine SStep0.inn ?_
 rintro a w K Q ⟨hd,hn,c,hp,ht,hpin⟩ hK
 have h1:Sv.okL w X.S c rs ((E.ti t).z.map Sv.v) (E.ti t).z:=by
  generalize (E.ti t).z=l
  induction l with
  |nil=>simp [Sv.okL]
  |cons x r ih=>simp only [List.map_cons,Sv.okL];exact⟨x,r,rfl,by simp [Sv.ok],ih⟩
 obtain⟨inf,zv,g1,g2,g3,g4,g5⟩:=E.info t (by rw [Ti.known,hk])
 have:=E.ok t
 simp only [aR,hk]at this
 obtain⟨_,e,eby,ez,q1,inf',zv',q2,q3,_⟩:=this
 obtain⟨cs',us',r1,r2,rfl⟩:=aCd hp ht _ parts.toList _ zv.cells (by rw [g5];exact h1) hf
 have r1:=aBo (q:=fun i=>some (i*esz,esz)) (fun i x hx=>by
  simp only [List.getElem?_map]at hx
  by_cases hi:i<n
  ·rw [List.getElem?_range hi]at hx;exact hx
  ·rw [List.getElem?_eq_none (by rw [List.length_range];omega)]at hx;cases hx) _ _ _ r1
 have hrun:(execOp a.eval o).run E.P w= .ok (.value (.agg us')) w:=by
  have e1:((parts.map fun(i,x)=>(i,a.eval x)).toList)=parts.toList.map fun p=>(p.1,a.eval p.2):=by simp
  have hz:(zeroValue t).run E.P w= .ok zv w:=by simp [zeroValue,typeInfo,g1,g4]
  have hsz:(sizeOf e).run E.P w= .ok esz w:=by simp [sizeOf,typeInfo,q2,q3]
  simp only [execOp,ho,Instr.build,Sem.run_bind,hz,run_underlying q1,Result.andThen_ok,hsz,e1,r1,Sem.run_pure]
 unfold Oper.wp
 rw [hrun]
 refine hK _ _ (bO hd hn ht hpin (Ext.refl _ _ _ _) hp hdn ?_)
 simp only [Sv.ok]
 exact⟨us'.toList,by simp,r2⟩
end
end Go.Eng
end
section
namespace Go.Eng
open Go
def aBq (hs:List (Nat×Sv)) (ts:List (Nat×Nat)) (p:Nat) (d:Dt):Sv:=match hlk hs p with|some s=>s|none=>Sv.ofDt ts d
def aDu (hs:List (Nat×Sv)) (ts:List (Nat×Nat)):Nat→List Dt→List Sv
 |_,[]=>[]
 |p,d::ds=>aBq hs ts p d::aDu hs ts (p+1) ds
theorem aDv (hs:List (Nat×Sv)) (ts:List (Nat×Nat)):∀(ds:List Dt) (p k:Nat) (d:Dt),ds[k]? =some d→(aDu hs ts p ds)[k]? =some (aBq hs ts (p+k) d)
 |[],_,_,_,h=>by simp at h
 |d::ds,p,0,d',h=>by simp at h;subst h;simp [aDu]
 |d::ds,p,k+1,d',h=>by
  simp only [aDu,List.getElem?_cons_succ]at h⊢
  rw [aDv hs ts ds (p+1) k d' h]
  rw [show p+1+k=p+(k+1) from by omega]
section
variable {X:Cx} {E:Env} {o:Oper} {tm:Nat→Sv} {rs:Nat→Rs}
theorem OwH.okL {w:World} {S:Nat→Prop} {c:Nat→Cn} {hs:List (Nat×Sv)} {ts:List (Nat×Nat)} (hb:vN rs ts):∀(ds:List Dt) (p:Nat) (F:Nat→Prop) (vs:List Value),(∀b,F b→Reg S c ts b)→OwH w S c rs hs F p ds vs→Sv.okL w S c rs (aDu hs ts p ds) vs
 |[],_,_,vs,_,h=>by simpa [OwH,aDu,Sv.okL]using h
 |d::ds,p,F,vs,hF,h=>by
  simp only [OwH]at h
  simp only [aDu,Sv.okL,aBq]
  split at h
  ·rename_i s hk
   obtain⟨x,r,h1,h2,h3⟩:=h
   rw [hk]
   exact⟨x,r,h1,h2,OwH.okL hb ds _ _ _ hF h3⟩
  ·rename_i hk
   obtain⟨x,r,F1,F2,h1,f1,f2,f3,h2,h3⟩:=h
   rw [hk]
   exact⟨x,r,h1,Sv.ofDt_ok hb (RdV.mono (fun b hb=>hF b (f1 b hb)) _ _ (OwV.rd _ _ h2)),OwH.okL hb ds _ _ _ (fun b hb=>hF b (f2 b hb)) h3⟩
theorem aHm {w:World} {S:Nat→Prop} {c:Nat→Cn} {i cv:Nat} {d:Dt} {hs:List (Nat×Sv)} (hr:rs i=⟨cv, .hol d hs⟩) (hcv:1≤cv) (h:Rk.ok w S c rs (c i) (.hol d hs)):
  ∃vs,Sv.okL w S c rs (aDu hs [(i,cv)] 0 (match d with| .sl _ _ cs=>cs|_=>[])) vs∧∀k x,vs[k]? =some x→w.cell? ⟨(c i).blk,k,none⟩=some x:=by
 obtain⟨sz,df,cs,m,cap,cur,e,rfl,h2,h3,h4,h5,h6,h7,h8,h9,h10⟩:=h
 refine⟨_,OwH.okL (aAD hr hcv) cs 0 _ _ (fun b hb=> .inr ⟨(i,cv),by simp,hb.1⟩) h10,fun k x hk=>?_⟩
 rw [List.getElem?_take]at hk
 split at hk
 ·simp [World.cell?,h8];simpa using hk
 ·cases hk
theorem aA1 (hdn:∀k,o.dst=some k→k<X.n) (t:TypeId) (x:Operand) (ho:o.op= .load t x) (i p:Nat) (hx:opd tm x= .ptr i p)
  (hk:(E.ti t).known=true) (ha:(E.ti t).agg=false) (cv:Nat) (sz:Nat) (df:Dt) (cs:List Dt) (hs:List (Nat×Sv)) (hr:rs i=⟨cv, .hol (.sl sz df cs) hs⟩) (d:Dt) (hd:cs[p]? =some d):
  bG X E.P o tm rs (aBq hs [(i,cv)] p d) []:=
 aY hdn fun a w c hp h=>by
  have h1:=h x
  rw [hx]at h1
  simp only [Sv.ok]at h1
  have h2:=hp.res i
  rw [hr]at h2
  have hc1:1≤cv:=by have:=h1.1;rw [hr]at this;exact this
  obtain⟨vs,h4,h5⟩:=aHm hr hc1 h2
  have h6:=aDv hs [(i,cv)] cs 0 p d hd
  rw [Nat.zero_add]at h6
  obtain⟨v,h7,h8⟩:=Sv.okL.get h4 h6
  exact⟨v,by simp [execOp,ho,h1.2,iH hk ha (h5 _ _ h7)],h8⟩
theorem aAw (hdn:∀k,o.dst=some k→k<X.n) (t:TypeId) (x y:Operand) (ho:o.op= .indexAddr t x y) (i:Nat) (hx:opd tm x= .sl i) (k:IntKind) (n:Int) (hy:opd tm y= .v (.int k n))
  (e:TypeId) (esz eby:Nat) (ez:List Value) (hk:(E.ti t).k= .sli e esz eby ez) (cv:Nat) (df:Dt) (cs:List Dt) (hs:List (Nat×Sv)) (hr:rs i=⟨cv, .hol (.sl esz df cs) hs⟩) (h0:0≤n) (h1:n.toNat*esz<cs.length):
  bG X E.P o tm rs (.ptr i (n.toNat*esz)) []:=
 aY hdn fun a w c hp h=>by
  have hx1:=h x
  have hy1:=h y
  rw [hx]at hx1
  rw [hy]at hy1
  simp only [Sv.ok]at hx1 hy1
  have h2:=hp.res i
  rw [hr]at h2
  obtain⟨sz,df',cs',m,cap,cur,e',q1,q2,q3,q4,_⟩:=h2
  cases q1
  have h6:n<m:=by
   have h7:n.toNat<m:=by
    rw [←q4]at h1
    exact Nat.lt_of_mul_lt_mul_right h1
   omega
  refine⟨.pointer (some ⟨(c i).blk,0+n.toNat*esz,none⟩),?_,?_⟩
  ·simp only [execOp,ho,hx1.2,hy1,q3,Sem.run_bind,lH hk _ _ _ _ k n h0 h6,Result.andThen_ok]
   rfl
  ·simp only [Sv.ok];exact⟨hx1.1,by simp⟩
theorem aCM (hdn:∀k,o.dst=some k→k<X.n) (t:TypeId) (x:Operand) (ho:o.op= .call {callee:= .builtin .len,args:= #[x],argTypes:= #[t]}) (i:Nat) (hx:opd tm x= .sl i)
  (e:TypeId) (esz eby:Nat) (ez:List Value) (hk:(E.ti t).k= .sli e esz eby ez) (cv:Nat) (df:Dt) (cs:List Dt) (hs:List (Nat×Sv)) (hr:rs i=⟨cv, .hol (.sl esz df cs) hs⟩) (n:Nat) (hn:n*esz=cs.length):
  bG X E.P o tm rs (.v (.int .i64 n)) []:=
 bM hdn _ fun ac w c hp h=>by
  have hx1:=h x
  rw [hx]at hx1
  simp only [Sv.ok]at hx1
  have h2:=hp.res i
  rw [hr]at h2
  obtain⟨sz,df',cs',m,cap,cur,e',q1,q2,q3,q4,_⟩:=h2
  cases q1
  have hm:m=n:=Nat.eq_of_mul_eq_mul_right q2 (by omega)
  subst hm
  simp [execOp,ho,resolve,invoke,builtin,hx1.2,q3,dB hk]
theorem OwH.plain {w:World} {S:Nat→Prop} {c:Nat→Cn} {q:Nat} {s:Sv}:∀(ds:List Dt) (p:Nat) (F:Nat→Prop) (vs:List Value),q<p→OwH w S c rs [(q,s)] F p ds vs→OwL w F ds vs
 |[],_,_,vs,_,h=>by simpa [OwH,OwL]using h
 |d::ds,p,F,vs,hq,h=>by
  have hk:hlk [(q,s)] p=none:=by simp [hlk,show¬p=q by omega]
  simp only [OwH,hk]at h
  obtain⟨x,r,F1,F2,h1,f1,f2,f3,h2,h3⟩:=h
  simp only [OwL]
  exact⟨x,r,F1,F2,h1,f1,f2,f3,h2,OwH.plain ds (p+1) F2 r (by omega) h3⟩
theorem OwH.fill {w:World} {S:Nat→Prop} {c:Nat→Cn} {s:Sv} {G:Nat→Prop} {t:Dt} {u:Value}:∀(ds:List Dt) (p k:Nat) (F:Nat→Prop) (vs:List Value),k<ds.length→(∀b,F b→G b→False)→OwV w G t u→
  OwH w S c rs [(p+k,s)] F p ds vs→OwL w (fun b=>F b∨G b) (ds.set k t) (vs.set k u)
 |[],_,_,_,_,h,_,_,_=>by simp at h
 |d::ds,p,0,F,vs,_,hd,ht,h=>by
  have hk:hlk [(p+0,s)] p=some s:=by simp [hlk]
  simp only [OwH,hk]at h
  obtain⟨x,r,rfl,_,h3⟩:=h
  simp only [List.set_cons_zero,OwL]
  exact⟨u,r,G,F,rfl,fun b hb=> .inr hb,fun b hb=> .inl hb,fun b h1 h2=>hd b h2 h1,ht,OwH.plain ds (p+1) F r (by omega) h3⟩
 |d::ds,p,k+1,F,vs,hl,hd,ht,h=>by
  have hk:hlk [(p+(k+1),s)] p=none:=by simp [hlk]
  simp only [OwH,hk]at h
  obtain⟨x,r,F1,F2,rfl,f1,f2,f3,h2,h3⟩:=h
  rw [show p+(k+1)=p+1+k from by omega]at h3
  simp only [List.set_cons_succ,OwL]
  exact⟨x,_,F1,fun b=>F2 b∨G b,rfl,fun b hb=> .inl (f1 b hb),fun b hb=>hb.elim (fun h=> .inl (f2 b h)) .inr,fun b h1 h2=>h2.elim (f3 b h1) (fun h=>hd b (f1 b h1) h),h2,OwH.fill ds (p+1) k F2 r (by simpa using hl) (fun b h=>hd b (f2 b h)) ht h3⟩
theorem OwH.agree {w w':World} {S:Nat→Prop} {c c':Nat→Cn} {rs':Nat→Rs} {q:Nat} {s:Sv} (hs:∀x,s.ok w S c rs x→∃s':Sv,s'.ok w' S c' rs' x):∀(ds:List Dt) (p:Nat) (F:Nat→Prop) (vs:List Value),Agree F w w'→OwH w S c rs [(q,s)] F p ds vs→OwH w' S c' rs' [(q, .dead)] F p ds vs
 |[],_,_,_,_,h=>h
 |d::ds,p,F,vs,ha,h=>by
  by_cases e:p=q
  ·have hk:∀s:Sv,hlk [(q,s)] p=some s:=fun s=>by simp [hlk,e]
   simp only [OwH,hk]at h⊢
   obtain⟨x,r,h1,h2,h3⟩:=h
   exact⟨x,r,h1,by simp [Sv.ok],OwH.agree hs ds (p+1) F r ha h3⟩
  ·have hk:∀s:Sv,hlk [(q,s)] p=none:=fun s=>by simp [hlk,e]
   simp only [OwH,hk]at h⊢
   obtain⟨x,r,F1,F2,h1,f1,f2,f3,h2,h3⟩:=h
   exact⟨x,r,F1,F2,h1,f1,f2,f3,OwV.frame (ha.mono f1) _ _ h2,OwH.agree hs ds (p+1) F2 r (ha.mono f2) h3⟩
theorem tB (hdn:o.dst=none) (t:TypeId) (x y:Operand) (ho:o.op= .store t x y) (i p:Nat) (hx:opd tm x= .ptr i p) (hk:(E.ti t).known=true) (hsz:(E.ti t).size=1)
  (cv sz:Nat) (df:Dt) (cs:List Dt) (s:Sv) (hr:rs i=⟨cv, .hol (.sl sz df cs) [(p,s)]⟩) (j:Nat) (hy:opd tm y= .sl j) (hij:i≠j) (cv2:Nat) (d:Dt) (hrj:rs j=⟨cv2, .arr d⟩) (hfit:p<cs.length):
  bG X E.P o tm rs .dead ((i,⟨cv+1, .arr (.sl sz df (cs.set p d))⟩)::bP rs [j]):=by
 refine SStep0.inn ?_
 rintro a w K Q ⟨hd,hn,c,hp,ht,hpin⟩ hK
 have hx1:=bX ht x
 rw [hx]at hx1
 simp only [Sv.ok]at hx1
 have hy1:=bX ht y
 rw [hy]at hy1
 simp only [Sv.ok]at hy1
 have h2:=hp.res i
 rw [hr]at h2
 obtain⟨sz',df',cs',m,cap,cur,e',q1,hsz0,e1,e2,e3,e4,e5,e6,e7,e8⟩:=h2
 cases q1
 have hj:=hp.res j
 rw [hrj]at hj
 have hlen:cs.length≤cur.size:=by
  rw [←e2,e7];exact Nat.mul_le_mul_right _ e3
 have hv:(c j).hdr.oneCell'=true:=hp.one j
 have hcl:(c j).hdr.cells.toList=[(c j).hdr]:=by rw [Value.cells_one hv]
 have hrun:=dU (E:=E) hk e6 (v:=(c j).hdr) (p:=p) (by rw [hcl,hsz];rfl) (by rw [hcl];simp;omega) (by rw [hcl];simpa using hv)
 have hset:putAt cur.toList p (c j).hdr.cells.toList=cur.toList.set p (c j).hdr:=by
  rw [hcl,putAt]
  have hp1:p<cur.toList.length:=by simp;omega
  rw [List.set_eq_take_append_cons_drop]
  simp only [hp1,if_true,List.length_singleton]
  simp
 rw [hset]at hrun
 have hag:Agree (fun b=>b≠(c i).blk) w (w.setRow (c i).blk (cur.toList.set p (c j).hdr).toArray):=dQ _ (by simp)
 obtain⟨hp',hx'⟩:=vG (w':=w.setRow (c i).blk (cur.toList.set p (c j).hdr).toArray) hp i ⟨(c i).blk,(c i).hdr,fun b=>(c i).fp b∨(c j).fp b⟩ (cv+1) (.arr (.sl sz df (cs.set p d))) [j] (by simp [hij]) (by rw [hr];simp)
  (.inr ⟨rfl,rfl⟩) rfl rfl rfl (by simp) (hag.mono fun b hb e=>hb.2.1 (by rw [e];exact e5)) (fun b hb=>hb.elim .inl (fun h=> .inr (.inl ⟨j,by simp,h⟩))) (hp.one i) (fun hx'=>by
   refine⟨?_,fun a m' k' hh=>by rw [show(c i).hdr=_ from e1]at hh;simp only [Value.slice.injEq,Option.some.injEq]at hh;exact hh.1.symm⟩
   simp only [OwV]
   refine⟨hsz0, .inr ⟨(c i).blk,m,cap,_,e',e1,by simpa using e2,e3,e4, .inl e5,setRow_heap w _ cur _ e' (0,0) e6,by simpa using e7,?_⟩⟩
   have h9:OwH (w.setRow (c i).blk (cur.toList.set p (c j).hdr).toArray) X.S c rs [(0+p, .dead)] (fun b=>(c i).fp b∧b≠(c i).blk) 0 cs (cur.toList.take cs.length):=by
    rw [Nat.zero_add]
    exact OwH.agree (fun _ _=>⟨.dead,by simp [Sv.ok]⟩) _ _ _ _ (hag.mono fun b hb=>hb.2) e8
   have h10:OwV (w.setRow (c i).blk (cur.toList.set p (c j).hdr).toArray) (c j).fp d (c j).hdr:=OwV.frame (hag.mono fun b hb e=>by subst e;exact hp.dis j i _ (Ne.symm hij) hb e5) _ _ hj.1
   have h11:=OwH.fill cs 0 p _ _ hfit (fun b h h'=>hp.dis i j b hij h.1 h') h10 h9
   have h12:=OwL.mono (F':=fun b=>((c i).fp b∨(c j).fp b)∧b≠(c i).blk) (fun b hb=>hb.elim (fun h=>⟨.inl h.1,h.2⟩) (fun h=>⟨.inr h,fun e=>by subst e;exact hp.dis j i _ (Ne.symm hij) h e5⟩)) _ _ h11
   simp only [List.length_set]
   show OwL _ _ _ ((cur.toList.set p (c j).hdr).take cs.length)
   rwa [List.take_set])
 unfold Oper.wp
 have hrun2:(execOp a.eval o).run E.P w= .ok .skip (w.setRow (c i).blk (cur.toList.set p (c j).hdr).toArray):=by
  simp [execOp,ho,hx1.2,hy1.2,hrun]
 rw [hrun2]
 exact hK _ _ (bO hd hn ht hpin hx' hp' (by simp [hdn]) (by simp [Sv.ok]))
end
end Go.Eng
end
section
namespace Go.Eng
open Go
structure Ss where
 tm:List (Nat×Sv)
 rs:List (Nat×Rs)
 nx:Nat
def lk:List (Nat×Sv)→Nat→Sv
 |[],_=> .dead
 |(k,s)::l,i=>if i=k then s else lk l i
def Ss.opd (σ:Ss) (x:Operand):Sv:=Eng.opd (lk σ.tm) x
def Ss.get (σ:Ss) (i:Nat):Rs:=rsL σ.rs i
def Ss.ap (σ:Ss) (d:Option Nat) (s:Sv) (ru:List (Nat×Rs)) (nx:Nat):Ss:=⟨match d with|some d=>(d,s)::σ.tm|none=>σ.tm,ru++σ.rs,nx⟩
theorem sN (i:Nat):rsL [] i=⟨0, .gone⟩:=rfl
theorem kJ (j i:Nat) (r:Rs) (l:List (Nat×Rs)):rsL ((j,r)::l) i=if i=j then r else rsL l i:=rfl
theorem aEw (f:Nat→Rs) (l m:List (Nat×Rs)):dC f (l++m)=dC (dC f m) l:=by
 induction l with
 |nil=>rfl
 |cons p l ih=>obtain⟨i,r⟩:=p;simp only [List.cons_append,dC,ih]
theorem rC (σ:Ss) (d:Option Nat) (s:Sv) (ru:List (Nat×Rs)) (nx:Nat):rsL (σ.ap d s ru nx).rs=dC (rsL σ.rs) ru:=aEw _ _ _
theorem yZ (σ:Ss) (d:Option Nat) (s:Sv) (ru:List (Nat×Rs)) (nx:Nat):lk (σ.ap d s ru nx).tm=wM (lk σ.tm) d s:=by
 cases d<;>rfl
def nO (σ:Ss):List (Nat×Nat)→Prop
 |[]=>True
 |(i,c)::r=>(σ.get i).cv=c∧(σ.get i).alive∧nO σ r
theorem iU {σ:Ss}:∀{ts:List (Nat×Nat)},nO σ ts→gI (rsL σ.rs) ts
 |[],_=>oV _
 |(i,c)::r,h=>fun p hp=>by
  simp only [nO]at h
  rcases List.mem_cons.1 hp with rfl|hp
  ·exact⟨h.1,h.2.1⟩
  ·exact iU h.2.2 p hp
/-! ### Data, by functions -/
def Dt.cells:Dt→List Dt| .sl _ _ cs=>cs|_=>[]
def Dt.sz:Dt→Nat| .sl sz _ _=>sz|_=>0
def Dt.df:Dt→Dt| .sl _ df _=>df|d=>d
def Dt.isSl:Dt→Bool| .sl .. =>true|_=>false
def Dt.nc (d:Dt):Nat:=d.cells.length
def Dt.len (d:Dt):Nat:=d.nc/d.sz
def Dt.at (d:Dt) (k:Nat):Dt:=d.cells.getD k d.df
def Dt.part (d:Dt) (k n:Nat):List Dt:=(d.cells.drop k).take n
def Dt.put (d:Dt) (k:Nat) (x:Dt):Dt:= .sl d.sz d.df (d.cells.set k x)
def Dt.app (sz:Nat) (df:Dt) (d e:Dt):Dt:= .sl sz df (d.cells++e.cells)
theorem Dt.eta {d:Dt} (h:d.isSl=true):d= .sl d.sz d.df d.cells:=by
 cases d<;>simp_all [Dt.isSl,Dt.sz,Dt.df,Dt.cells]
/-! ### Which resources a value leads to -/
mutual
def Sv.ids:Sv→List Nat
 | .bor ts _=>ts.map (·.1)
 | .bptr ts _=>ts.map (·.1)
 | .sl i=>[i]
 | .ptr i _=>[i]
 | .bsl i _=>[i]
 | .agg l=>Sv.idsL l
 | .tup l=>Sv.idsL l
 | .fn _ l=>Sv.idsL l
 |_=>[]
def Sv.idsL:List Sv→List Nat
 |[]=>[]
 |s::l=>Sv.ids s++Sv.idsL l
end
def Rk.ids:Rk→List Nat
 | .box l=>Sv.idsL l
 | .hol _ hs=>hs.flatMap fun q=>q.2.ids
 | .bx l _ _=>Sv.idsL l
 |_=>[]
def bL (rs:Nat→Rs):Nat→List Nat→List Nat
 |0,l=>l
 |n+1,l=>l++bL rs n (l.flatMap fun i=>(rs i).k.ids)
def qQ:Op→Nat
 | .load .. | .store .. | .nilCheck .. | .fieldAddr .. | .indexAddr .. | .move .. | .assign .. =>0
 |_=>3
def aAP:Op→Bool
 | .move .. | .assign .. =>true
 |_=>false
def gH (σ:Ss) (o:Oper):List Nat:=if aAP o.op then []else bL (rsL σ.rs) (qQ o.op) (o.op.operands.toList.flatMap fun x=>(σ.opd x).ids)
theorem nC {rs:Nat→Rs} {n:Nat} {l:List Nat} {i:Nat} (h:i∈l):i∈bL rs n l:=by
 cases n with
 |zero=>exact h
 |succ n=>exact List.mem_append_left _ h
theorem aE7 {σ:Ss} {o:Oper} {x:Operand} (hx:x∈o.op.operands.toList) {i:Nat} (hi:i∈(σ.opd x).ids) (hm:aAP o.op=false:=by rw [ho];rfl):i∈gH σ o:=by
 unfold gH
 rw [if_neg (by rw [hm];decide)]
 exact nC (List.mem_flatMap.2 ⟨x,hx,hi⟩)
/-! ### The evaluator -/
def aBl (s:Sv) (σ:Ss) (K:Sv→Prop):Prop:=
 match s with
 | .ptr i o=>K (.ptr i o)
 | .bptr ts ds=>nO σ ts∧K (.bptr ts ds)
 |_=>False
def aBi (k:Tk) (f:Nat) (s:Sv) (σ:Ss) (K:Sv→Prop):Prop:=
 match k with
 | .st fs=>match fs[f]? with
  |some (off,sz)=>match s with
   | .ptr i p=>K (.ptr i (p+off))
   | .bptr ts ds=>nO σ ts∧K (.bptr ts ((ds.drop off).take sz))
   |_=>False
  |none=>False
 |_=>False
def tQ (ti:Ti) (s:Sv) (σ:Ss) (K:Sv→Prop):Prop:=
 ti.known=true∧
 match s with
 | .ptr i p=>match (σ.get i).k with
  | .box cells=>match ti.agg with
   |true=>p+ti.size≤cells.length∧K (.agg ((cells.drop p).take ti.size))
   |false=>match cells[p]? with|some s=>K s|none=>False
  | .arr d=>match ti.agg with
   |true=>d.isSl=true∧p+ti.size≤d.nc∧K (.agg ((d.part p ti.size).map (Sv.ofDt [(i,(σ.get i).cv)])))
   |false=>d.isSl=true∧p<d.nc∧K (Sv.ofDt [(i,(σ.get i).cv)] (d.at p))
  | .hol d hs=>match ti.agg with
   |true=>False
   |false=>d.isSl=true∧p<d.nc∧K (aBq hs [(i,(σ.get i).cv)] p (d.at p))
  | .bx cells _ _=>match ti.agg with
   |true=>False
   |false=>match cells[p]? with|some s=>K s|none=>False
  |_=>False
 | .bptr ts ds=>nO σ ts∧match ti.agg with
  |true=>ti.size≤ds.length∧K (.agg ((ds.take ti.size).map (Sv.ofDt ts)))
  |false=>match ds with|d::_=>K (Sv.ofDt ts d)|[]=>False
 |_=>False
def aBj (k:Tk) (s i:Sv) (σ:Ss) (K:Sv→Prop):Prop:=
 match k,i with
 | .sli _ esz _ _, .v (.int _ n)=>match s with
  | .sl j=>match (σ.get j).k with
   | .arr d=>d.isSl=true∧d.sz=esz∧0≤n∧n.toNat*esz<d.nc∧K (.ptr j (n.toNat*esz))
   | .hol d _=>d.isSl=true∧d.sz=esz∧0≤n∧n.toNat*esz<d.nc∧K (.ptr j (n.toNat*esz))
   |_=>False
  | .bor ts d=>nO σ ts∧d.isSl=true∧d.sz=esz∧0≤n∧n.toNat*esz<d.nc∧K (.bptr ts (if esz=1 then [d.at n.toNat]else d.part (n.toNat*esz) esz))
  | .bsl j m=>0≤n∧n<m∧K (.ptr j (n.toNat*esz))
  |_=>False
 | .ar m esz, .v (.int _ n)=>match s with
  | .ptr j p=>0≤n∧n<m∧K (.ptr j (p+n.toNat*esz))
  | .bptr ts ds=>nO σ ts∧0≤n∧n<m∧K (.bptr ts ((ds.drop (n.toNat*esz)).take esz))
  |_=>False
 |_,_=>False
def inR (z:Int):Prop:= -9223372036854775808≤z∧z≤9223372036854775807
def aBf (op:BinOp) (x y:Sv) (K:Sv→Prop):Prop:=
 match x,y with
 | .v (.int k a), .v (.int k' b)=>k=k'∧match op with
  | .add=>(match k with| .i64=>inR (a+b)∧K (.v (.int .i64 (a+b)))|k=>K (.v (.int k (k.wrap (a+b)))))
  | .sub=>(match k with| .i64=>inR (a-b)∧K (.v (.int .i64 (a-b)))|k=>K (.v (.int k (k.wrap (a-b)))))
  | .mul=>(match k with| .i64=>inR (a*b)∧K (.v (.int .i64 (a*b)))|k=>K (.v (.int k (k.wrap (a*b)))))
  | .quo=>b≠0∧(match k with| .i64=>inR (a.tdiv b)∧K (.v (.int .i64 (a.tdiv b)))|k=>K (.v (.int k (k.wrap (a.tdiv b)))))
  | .rem=>b≠0∧K (.v (.int k (a.tmod b)))
  | .eql=>K (.v (.bool (decide (a=b))))
  | .neq=>K (.v (.bool (!decide (a=b))))
  | .lss=>K (.v (.bool (decide (a<b))))
  | .leq=>K (.v (.bool (decide (a≤b))))
  | .gtr=>K (.v (.bool (decide (b<a))))
  | .geq=>K (.v (.bool (decide (b≤a))))
  |_=>False
 |_,_=>False
def aHb (op:UnOp) (x:Sv) (K:Sv→Prop):Prop:=
 match op,x with
 | .not, .v (.bool b)=>K (.v (.bool !b))
 | .neg, .v (.int .i64 n)=>inR (0-n)∧K (.v (.int .i64 (0-n)))
 |_,_=>False
def kE (x:Sv) (A B:Prop):Prop:=
 match x with
 | .v (.bool b)=>(b=true→A)∧(b=false→B)
 |_=>False
def aBg (x:Sv) (i:Nat) (K:Sv→Prop):Prop:=
 match x with
 | .tup l=>match l[i]? with|some s=>K s|none=>False
 |_=>False
def aBk (k:Tk) (s:Sv) (σ:Ss) (K:Sv→Prop):Prop:=
 match k with
 | .sli _ esz _ _=>match s with
  | .sl i=>match (σ.get i).k with
   | .arr d=>d.isSl=true∧d.sz=esz∧d.len*esz=d.nc∧K (.v (.int .i64 d.len))
   | .hol d _=>d.isSl=true∧d.sz=esz∧d.len*esz=d.nc∧K (.v (.int .i64 d.len))
   |_=>False
  | .bor ts d=>nO σ ts∧d.isSl=true∧d.sz=esz∧d.len*esz=d.nc∧K (.v (.int .i64 d.len))
  | .bsl _ n=>K (.v (.int .i64 n))
  | .v (.slice _ n _)=>K (.v (.int .i64 n))
  |_=>False
 | .strk=>match s with
  | .v (.string b)=>K (.v (.int .i64 b.size))
  |_=>False
 |_=>False
def pG (ti:Ti) (a x:Sv) (σ:Ss) (K:Ss→Prop):Prop:=
 ti.known=true∧
 match a with
 | .ptr i p=>match (σ.get i).k with
  | .box cells=>x.cells.all Sv.one=true∧x.cells.length=ti.size∧p+x.cells.length≤cells.length∧K (σ.ap none .dead [(i,⟨(σ.get i).cv+1, .box (putAt cells p x.cells)⟩)] σ.nx)
  | .arr d=>ti.size=1∧d.isSl=true∧p<d.nc∧match x with
   | .v v=>v.oneCell'=true∧K (σ.ap none .dead [(i,⟨(σ.get i).cv+1, .arr (d.put p (.v v))⟩)] σ.nx)
   | .sl j=>i≠j∧match (σ.get j).k with
    | .arr e=>K (σ.ap none .dead ((i,⟨(σ.get i).cv+1, .arr (d.put p e)⟩)::bP (rsL σ.rs) [j]) σ.nx)
    |_=>False
   |_=>False
  | .hol d hs=>ti.size=1∧d.isSl=true∧p<d.nc∧hs.map (·.1)=[p]∧match x with
   | .sl j=>i≠j∧match (σ.get j).k with
    | .arr e=>K (σ.ap none .dead ((i,⟨(σ.get i).cv+1, .arr (d.put p e)⟩)::bP (rsL σ.rs) [j]) σ.nx)
    |_=>False
   |_=>False
  |_=>False
 |_=>False
def yH (s:Sv) (σ:Ss) (esz:Nat) (df:Dt) (K:Dt→List Nat→Prop):Prop:=
 match s with
 | .v (.slice none 0 0)=>K (.sl esz df []) []
 | .sl i=>match (σ.get i).k with
  | .arr d=>d.isSl=true∧d.sz=esz∧K d [i]
  |_=>False
 |_=>False
def Dt.flat (d:Dt):Bool:=d.cells.all Dt.isV
def Dt.ones (d:Dt):Bool:=d.cells.all Dt.one
def aBm (s:Sv) (σ:Ss) (esz:Nat) (df:Dt) (J0:List Nat) (K:Dt→List Nat→Prop):Prop:=
 match s with
 | .v (.slice none 0 0)=>K (.sl esz df []) []
 | .sl j=>match (σ.get j).k with
  | .arr d=>d.isSl=true∧d.sz=esz∧d.ones=true∧match d.flat with
   |true=>K d []
   |false=>j∉J0∧1≤(σ.get j).cv∧K d [j]
  |_=>False
 | .bor ts d=>nO σ ts∧d.isSl=true∧d.sz=esz∧d.ones=true∧d.flat=true∧K d []
 |_=>False
def mG (ti:Ti) (x y:Sv) (σ:Ss) (K:Nat→List (Nat×Rs)→Prop):Prop:=
 match ti.k with
 | .sli _ esz eby ez=>0<esz∧ez.length=esz∧σ.get σ.nx=⟨0, .gone⟩∧yH x σ esz ti.dd fun d J0=>aBm y σ esz ti.dd J0 fun e J=>
   (d.nc+e.nc)*eby≤140737488355328*esz∧d.nc+e.nc≤9223372036854775807∧K σ.nx ((σ.nx,⟨1, .arr (Dt.app esz ti.dd d e)⟩)::bP (rsL σ.rs) (J0++J))
 |_=>False
def pD (ti:Ti) (len:Nat) (parts:Array (Nat×Operand)) (σ:Ss) (K:Sv→List (Nat×Rs)→Prop):Prop:=
 match ti.k with
 | .sli _ esz _ _=>0<esz∧len*esz≤16777216∧parts.toList.map (·.1)=List.range len∧σ.get σ.nx=⟨0, .gone⟩∧
   (parts.toList.map (·.2)).all (fun x=>(σ.opd x).cells.length==esz&&(σ.opd x).cells.all Sv.one)=true∧
   match dH (rsL σ.rs) ((parts.toList.map (·.2)).flatMap fun x=>(σ.opd x).cells)with
   |some (ds,J)=>J.Nodup∧K (.sl σ.nx) ((σ.nx,⟨1, .arr (.sl esz ti.dd ds)⟩)::bP (rsL σ.rs) J)
   |none=>K (.bsl σ.nx len) [(σ.nx,⟨1, .box ((parts.toList.map (·.2)).flatMap fun x=>(σ.opd x).cells)⟩)]
 |_=>False
def tR (ti:Ti) (l c:Sv) (σ:Ss) (K:Sv→List (Nat×Rs)→Prop):Prop:=
 match ti.k,l,c with
 | .sli _ 1 eby [z], .v (.int _ l), .v (.int _ n)=>0≤l∧l≤n∧n*eby≤140737488355328∧n≤9223372036854775807∧σ.get σ.nx=⟨0, .gone⟩∧
   K (.sl σ.nx) [(σ.nx,⟨1, .arr (.sl 1 ti.dd (List.replicate l.toNat (.v z)))⟩)]
 |_,_,_=>False
def EvCall (E:Env) (s:Sv) (args:List Sv) (σ:Ss) (K:Sv→List (Nat×Rs)→Prop):Prop:=
 ∃f caps es L0 r L1 ML V,s= .fn f caps∧(∀i∈V,i∈bL (rsL σ.rs) 3 (s.ids++args.flatMap Sv.ids))∧aF E.P f∧Spec E.P f es L0 r L1∧CallOk (rsL σ.rs) L0 ML V∧Sv.mtL ML V (rsL σ.rs) (rsL L0) (args++caps) es∧
  K (r.ren (aU (rsL σ.rs) (rsL L1) ML V)) (cR (aU (rsL σ.rs) (rsL L1) ML V) (rsL L1))
def EvYield (E:Env) (l:Nat) (args:List Sv) (σ:Ss) (K:Sv→List (Nat×Rs)→Prop):Prop:=
 ∃es L0 r L1 ML V H,(∀i∈V,i∈bL (rsL σ.rs) 3 (args.flatMap Sv.ids))∧aIl E.P l es L0 r L1 H∧CallOk (rsL σ.rs) L0 ML V∧Sv.mtL ML V (rsL σ.rs) (rsL L0) args es∧
  (∀(X:Cx) (c:Nat→Cn),E.hk X.c0 X.rs0→(∀i,1≤(X.rs0 i).cv→(c i).blk=(X.c0 i).blk∧(c i).hdr=(X.c0 i).hdr)→H (cnM c ML (rsL L0)))∧
  K (r.ren (aU (rsL σ.rs) (rsL L1) ML V)) (cR (aU (rsL σ.rs) (rsL L1) ML V) (rsL L1))
def pF (E:Env) (s:Sv) (args:List Sv) (σ:Ss) (K:Sv→List (Nat×Rs)→Prop):Prop:=
 match s with
 | .v (.func (.yield l) f c)=>f= #[]∧c= #[]∧EvYield E l args σ K
 |s=>EvCall E s args σ K
def zB (nx:Nat):List (Nat×Rs)→Nat
 |[]=>nx
 |(i,_)::l=>zB (max nx (i+1)) l
def xO (X:Cx) (P:Program) (o:Oper) (tm0:Nat→Sv) (rs0:Nat→Rs) (foot:List Nat) (sv:Sv) (ru:List (Nat×Rs)):Prop:=
 ∀tm rs,(∀x∈o.op.operands.toList,opd tm x=opd tm0 x)→(∀i∈foot,rs i=rs0 i)→bG X P o tm rs sv ru
def cG (E:Env) (d:Option Nat) (op:Op) (σ:Ss) (K:Ss→Prop):Prop:=
 ∃foot sv ru nx,(∀(X:Cx) (o:Oper),E.hk X.c0 X.rs0→o.dst=d→o.op=op→(∀k,d=some k→k<X.n)→xO X E.P o (lk σ.tm) (rsL σ.rs) foot sv ru)∧K (σ.ap d sv ru nx)∧
  ∀i∈foot,i∈bL (rsL σ.rs) 3 (op.operands.toList.flatMap fun x=>(σ.opd x).ids)∨i∈ru.map (·.1)
def aBe (ti:Ti) (parts:List (Nat×Sv)) (K:Sv→Prop):Prop:=
 match ti.k with
 | .st fs=>iC fs (ti.z.map Sv.v) (fun cs=>K (.agg cs)) parts
 | .ar n esz=>iC ((List.range n).map fun i=>(i*esz,esz)) (ti.z.map Sv.v) (fun cs=>K (.agg cs)) parts
 |_=>False
def jI (E:Env) (d:Option Nat) (op:Op) (σ:Ss) (K:Ss→Prop):Prop:=
 match op with
 | .move x=>K (σ.ap d (σ.opd x) [] σ.nx)
 | .assign x=>K (σ.ap d (σ.opd x) [] σ.nx)
 | .nilCheck x=>aBl (σ.opd x) σ fun s=>K (σ.ap d s [] σ.nx)
 | .fieldAddr s x f=>aBi (E.ti s).k f (σ.opd x) σ fun s=>K (σ.ap d s [] σ.nx)
 | .load t x=>tQ (E.ti t) (σ.opd x) σ fun s=>K (σ.ap d s [] σ.nx)
 | .store t x y=>d=none∧pG (E.ti t) (σ.opd x) (σ.opd y) σ K
 | .indexAddr t x y=>aBj (E.ti t).k (σ.opd x) (σ.opd y) σ fun s=>K (σ.ap d s [] σ.nx)
 | .binOp op t x y u=>match (E.ti t).k with
  | .st _=>cG E d (.binOp op t x y u) σ K
  | .ar _ _=>cG E d (.binOp op t x y u) σ K
  | .strk=>cG E d (.binOp op t x y u) σ K
  | .no=>cG E d (.binOp op t x y u) σ K
  |_=>aBf op (σ.opd x) (σ.opd y) fun s=>K (σ.ap d s [] σ.nx)
 | .build t parts=>aBe (E.ti t) (parts.toList.map fun p=>(p.1,σ.opd p.2)) fun s=>K (σ.ap d s [] σ.nx)
 | .unOp op _ x=>aHb op (σ.opd x) fun s=>K (σ.ap d s [] σ.nx)
 | .pick x y z=>kE (σ.opd x) (K (σ.ap d (σ.opd y) [] σ.nx)) (K (σ.ap d (σ.opd z) [] σ.nx))
 | .extract x i=>aBg (σ.opd x) i fun s=>K (σ.ap d s [] σ.nx)
 | .box _ x=>(σ.opd x).cells.all Sv.one=true∧σ.get σ.nx=⟨0, .gone⟩∧K (σ.ap d (.ptr σ.nx 0) [(σ.nx,⟨1, .box (σ.opd x).cells⟩)] (σ.nx+1))
 | .alloc t=>(E.ti t).known=true∧σ.get σ.nx=⟨0, .gone⟩∧K (σ.ap d (.ptr σ.nx 0) [(σ.nx,⟨1, .box ((E.ti t).z.map Sv.v)⟩)] (σ.nx+1))
 | .buildSlice t len parts=>pD (E.ti t) len parts σ fun s ru=>K (σ.ap d s ru (σ.nx+1))
 | .makeSlice t x y=>tR (E.ti t) (σ.opd x) (σ.opd y) σ fun s ru=>K (σ.ap d s ru (σ.nx+1))
 | .makeFunc fn first caps=>match fn with
  | .func f=>first= #[]∧K (σ.ap d (.fn f (caps.toList.map σ.opd)) [] σ.nx)
  |_=>False
 | .call c=>match c.callee with
  | .builtin .len=>match c.args.toList,c.argTypes.toList with
   |[x],[t]=>aBk (E.ti t).k (σ.opd x) σ fun s=>K (σ.ap d s [] σ.nx)
   |_,_=>False
  | .builtin .append=>match c.args.toList,c.argTypes.toList with
   |[x,y],[t,t']=>t=t'∧mG (E.ti t) (σ.opd x) (σ.opd y) σ fun i ru=>K (σ.ap d (.sl i) ru (σ.nx+1))
   |_,_=>False
  | .value x=>pF E (σ.opd x) (c.args.toList.map σ.opd) σ fun s ru=>K (σ.ap d s ru (zB σ.nx ru))
  |_=>cG E d (.call c) σ K
 |op=>cG E d op σ K
end Go.Eng
end
section
namespace Go.Eng
open Go
def Fnd (X:Cx) (P:Program) (o:Oper) (σ:Ss) (K:Ss→Prop):Prop:=
 ∃foot sv ru nx,xO X P o (lk σ.tm) (rsL σ.rs) foot sv ru∧K (σ.ap o.dst sv ru nx)∧∀i∈foot,i∈gH σ o∨i∈ru.map (·.1)
theorem bV {σ:Ss} {o:Oper} {L:List Nat}:∀i∈([]:List Nat),i∈gH σ o∨i∈L:=fun i hi=>by cases hi
theorem cL {σ:Ss} {o:Oper} {L foot:List Nat} {x:Operand} (hx:x∈o.op.operands.toList) {s:Sv} (hs:σ.opd x=s) (hf:∀i∈foot,i∈s.ids) (hm:aAP o.op=false:=by rw [ho];rfl):∀i∈foot,i∈gH σ o∨i∈L:=
 fun i hi=> .inl (aE7 hx (by rw [hs];exact hf i hi) hm)
section
variable {X:Cx} {E:Env} {o:Oper} {σ:Ss} {K:Ss→Prop}
theorem cS {rs rs':Nat→Rs} {ts:List (Nat×Nat)} (h:gI rs ts) (he:∀i∈ts.map (·.1),rs' i=rs i):gI rs' ts:=fun p hp=>by
 rw [he p.1 (List.mem_map.2 ⟨p,hp,rfl⟩)];exact h p hp
theorem qD {rs rs':Nat→Rs}:∀{l:List Sv} {p:List Dt×List Nat},dH rs l=some p→(∀j∈p.2,rs' j=rs j)→dH rs' l=some p
 |[],p,h,_=>h
 | .v x::l,p,h,he=>by
  simp only [dH,Option.map_eq_some_iff]at h⊢
  obtain⟨q,h1,rfl⟩:=h
  exact⟨q,qD h1 he,rfl⟩
 | .sl j::l,p,h,he=>by
  simp only [dH]at h
  split at h
  ·rename_i d hd
   simp only [Option.map_eq_some_iff]at h
   obtain⟨q,h1,rfl⟩:=h
   have hj:=he j (by simp)
   simp only [dH,hj,hd,Option.map_eq_some_iff]
   exact⟨q,qD h1 (fun i hi=>he i (by simp [hi])),rfl⟩
  ·cases h
 | .dead::_,_,h,_=>by simp [dH]at h
 | .bor .. ::_,_,h,_=>by simp [dH]at h
 | .bptr .. ::_,_,h,_=>by simp [dH]at h
 | .ptr .. ::_,_,h,_=>by simp [dH]at h
 | .bsl .. ::_,_,h,_=>by simp [dH]at h
 | .agg _::_,_,h,_=>by simp [dH]at h
 | .tup _::_,_,h,_=>by simp [dH]at h
 | .fn .. ::_,_,h,_=>by simp [dH]at h
theorem fA {rs rs':Nat→Rs} {J:List Nat} (he:∀j∈J,rs' j=rs j):bP rs' J=bP rs J:=
 List.map_congr_left fun j hj=>by rw [he j hj]
theorem aKZ (hdn:∀k,o.dst=some k→k<X.n) (x:Operand) (ho:o.op= .move x) (h:K (σ.ap o.dst (σ.opd x) [] σ.nx)):Fnd X E.P o σ K:=
 ⟨[],_,[],_,fun tm rs h1 _=>by
  have:=h1 x (by simp [ho,Op.operands])
  rw [show σ.opd x=opd tm x from this.symm];exact aH8 hdn x ho,h,bV⟩
theorem aFt (hdn:∀k,o.dst=some k→k<X.n) (x:Operand) (ho:o.op= .assign x) (h:K (σ.ap o.dst (σ.opd x) [] σ.nx)):Fnd X E.P o σ K:=
 ⟨[],_,[],_,fun tm rs h1 _=>by
  have:=h1 x (by simp [ho,Op.operands])
  rw [show σ.opd x=opd tm x from this.symm];exact aEj hdn x ho,h,bV⟩
theorem aCD (hdn:∀k,o.dst=some k→k<X.n) (x:Operand) (ho:o.op= .nilCheck x) (h:aBl (σ.opd x) σ fun s=>K (σ.ap o.dst s [] σ.nx)):Fnd X E.P o σ K:=by
 have hx:∀tm,(∀y∈o.op.operands.toList,opd tm y=opd (lk σ.tm) y)→opd tm x=σ.opd x:=fun tm h1=>h1 x (by simp [ho,Op.operands])
 unfold aBl at h
 split at h
 ·rename_i i p hs
  exact⟨[],_,[],_,fun tm rs h1 _=>aA3 hdn x ho i p ((hx tm h1).trans hs),h,bV⟩
 ·rename_i ts ds hs
  exact⟨ts.map (·.1),_,[],_,fun tm rs h1 h2=>wH hdn x ho ts ds ((hx tm h1).trans hs) (cS (iU h.1) h2),h.2,cL (x:=x) (by simp [ho,Op.operands]) hs (fun _ hi=>by rw [Sv.ids];exact hi)⟩
 ·exact h.elim
theorem aAS (hdn:∀k,o.dst=some k→k<X.n) (s:TypeId) (x:Operand) (f:Nat) (ho:o.op= .fieldAddr s x f) (h:aBi (E.ti s).k f (σ.opd x) σ fun s=>K (σ.ap o.dst s [] σ.nx)):Fnd X E.P o σ K:=by
 have hx:∀tm,(∀y∈o.op.operands.toList,opd tm y=opd (lk σ.tm) y)→opd tm x=σ.opd x:=fun tm h1=>h1 x (by simp [ho,Op.operands])
 unfold aBi at h
 split at h
 ·rename_i fs hk
  split at h
  ·rename_i off sz hf
   split at h
   ·rename_i i p hs
    exact⟨[],_,[],_,fun tm rs h1 _=>aAs hdn s x f ho i p ((hx tm h1).trans hs) fs hk off sz hf,h,bV⟩
   ·rename_i ts ds hs
    exact⟨ts.map (·.1),_,[],_,fun tm rs h1 h2=>uK hdn s x f ho ts ds ((hx tm h1).trans hs) (cS (iU h.1) h2) fs hk off sz hf,h.2,cL (x:=x) (by simp [ho,Op.operands]) hs (fun _ hi=>by rw [Sv.ids];exact hi)⟩
   ·exact h.elim
  ·exact h.elim
 ·exact h.elim
theorem aKX (hdn:∀k,o.dst=some k→k<X.n) (t:TypeId) (x:Operand) (ho:o.op= .load t x) (h:tQ (E.ti t) (σ.opd x) σ fun s=>K (σ.ap o.dst s [] σ.nx)):Fnd X E.P o σ K:=by
 have hx:∀tm,(∀y∈o.op.operands.toList,opd tm y=opd (lk σ.tm) y)→opd tm x=σ.opd x:=fun tm h1=>h1 x (by simp [ho,Op.operands])
 unfold tQ at h
 obtain⟨hk,h⟩:=h
 split at h
 ·rename_i i p hs
  have hr:∀rs:Nat→Rs,(∀j∈[i],rs j=rsL σ.rs j)→rs i=σ.get i:=fun rs h2=>h2 i (by simp)
  split at h
  ·rename_i cells hc
   have hr2:∀rs:Nat→Rs,(∀j∈[i],rs j=rsL σ.rs j)→rs i=⟨(σ.get i).cv, .box cells⟩:=fun rs h2=>by rw [hr rs h2,←hc]
   split at h
   ·rename_i ha
    exact⟨[i],_,[],_,fun tm rs h1 h2=>sZ hdn t x ho i p ((hx tm h1).trans hs) hk ha _ cells (hr2 rs h2) h.1,h.2,cL (x:=x) (by simp [ho,Op.operands]) hs (fun _ hi=>by rw [Sv.ids];exact hi)⟩
   ·rename_i ha
    split at h
    ·rename_i s hg
     exact⟨[i],_,[],_,fun tm rs h1 h2=>aA0 hdn t x ho i p ((hx tm h1).trans hs) hk ha _ cells (hr2 rs h2) s hg,h,cL (x:=x) (by simp [ho,Op.operands]) hs (fun _ hi=>by rw [Sv.ids];exact hi)⟩
    ·exact h.elim
  ·rename_i d hc
   split at h
   ·rename_i ha
    obtain⟨hsl,hfit,h⟩:=h
    have hr2:∀rs:Nat→Rs,(∀j∈[i],rs j=rsL σ.rs j)→rs i=⟨(σ.get i).cv, .arr (.sl d.sz d.df d.cells)⟩:=fun rs h2=>by rw [hr rs h2,←Dt.eta hsl,←hc]
    exact⟨[i],_,[],_,fun tm rs h1 h2=>sY hdn t x ho i p ((hx tm h1).trans hs) hk ha _ _ _ _ (hr2 rs h2) hfit,h,cL (x:=x) (by simp [ho,Op.operands]) hs (fun _ hi=>by rw [Sv.ids];exact hi)⟩
   ·rename_i ha
    obtain⟨hsl,hfit,h⟩:=h
    have hr2:∀rs:Nat→Rs,(∀j∈[i],rs j=rsL σ.rs j)→rs i=⟨(σ.get i).cv, .arr (.sl d.sz d.df d.cells)⟩:=fun rs h2=>by rw [hr rs h2,←Dt.eta hsl,←hc]
    have hat:d.cells[p]? =some (d.at p):=by
     have:p<d.cells.length:=hfit
     simp [Dt.at,this]
    exact⟨[i],_,[],_,fun tm rs h1 h2=>aAZ hdn t x ho i p ((hx tm h1).trans hs) hk ha _ _ _ _ (hr2 rs h2) _ hat,h,cL (x:=x) (by simp [ho,Op.operands]) hs (fun _ hi=>by rw [Sv.ids];exact hi)⟩
  ·rename_i d hs' hc
   split at h
   ·exact h.elim
   ·rename_i ha
    obtain⟨hsl,hfit,h⟩:=h
    have hr2:∀rs:Nat→Rs,(∀j∈[i],rs j=rsL σ.rs j)→rs i=⟨(σ.get i).cv, .hol (.sl d.sz d.df d.cells) hs'⟩:=fun rs h2=>by rw [hr rs h2,←Dt.eta hsl,←hc]
    have hat:d.cells[p]? =some (d.at p):=by
     have:p<d.cells.length:=hfit
     simp [Dt.at,this]
    exact⟨[i],_,[],_,fun tm rs h1 h2=>aA1 hdn t x ho i p ((hx tm h1).trans hs) hk ha _ _ _ _ _ (hr2 rs h2) _ hat,h,cL (x:=x) (by simp [ho,Op.operands]) hs (fun _ hi=>by rw [Sv.ids];exact hi)⟩
  ·rename_i cells kk d hc
   have hr2:∀rs:Nat→Rs,(∀j∈[i],rs j=rsL σ.rs j)→rs i=⟨(σ.get i).cv, .bx cells kk d⟩:=fun rs h2=>by rw [hr rs h2,←hc]
   split at h
   ·exact h.elim
   ·rename_i ha
    split at h
    ·rename_i s hg
     exact⟨[i],_,[],_,fun tm rs h1 h2=>aCO hdn t x ho i p ((hx tm h1).trans hs) hk ha _ cells kk d (hr2 rs h2) s hg,h,cL (x:=x) (by simp [ho,Op.operands]) hs (fun _ hi=>by rw [Sv.ids];exact hi)⟩
    ·exact h.elim
  ·exact h.elim
 ·rename_i ts ds hs
  obtain⟨htg,h⟩:=h
  split at h
  ·rename_i ha
   exact⟨ts.map (·.1),_,[],_,fun tm rs h1 h2=>wG hdn t x ho ts ds ((hx tm h1).trans hs) (cS (iU htg) h2) hk ha h.1,h.2,cL (x:=x) (by simp [ho,Op.operands]) hs (fun _ hi=>by rw [Sv.ids];exact hi)⟩
  ·rename_i ha
   split at h
   ·rename_i d ds'
    exact⟨ts.map (·.1),_,[],_,fun tm rs h1 h2=>aEk hdn t x ho ts _ ((hx tm h1).trans hs) (cS (iU htg) h2) hk ha d rfl,h,cL (x:=x) (by simp [ho,Op.operands]) hs (fun _ hi=>by rw [Sv.ids];exact hi)⟩
   ·exact h.elim
 ·exact h.elim
theorem aHY (hdn : ∀ k, o.dst = some k → k < X.n) (t : TypeId) (x y : Operand) (ho : o.op = .indexAddr t x y) (h : aBj (E.ti t).k (σ.opd x) (σ.opd y) σ fun s => K (σ.ap o.dst s [] σ.nx)) : Fnd X E.P o σ K := by
  have hx : ∀ tm, (∀ z ∈ o.op.operands.toList, opd tm z = opd (lk σ.tm) z) → opd tm x = σ.opd x := fun tm h1 => h1 x (by simp [ho, Op.operands])
  have hy : ∀ tm, (∀ z ∈ o.op.operands.toList, opd tm z = opd (lk σ.tm) z) → opd tm y = σ.opd y := fun tm h1 => h1 y (by simp [ho, Op.operands])
  unfold aBj at h
  split at h
  · rename_i e esz eby ez k n hk hs2
    split at h
    · rename_i j hs
      split at h
      · rename_i d hc
        obtain ⟨hsl, rfl, h0, h1', h⟩ := h
        exact ⟨[j], _, [], _, fun tm rs h1 h2 => aAt hdn t x y ho j ((hx tm h1).trans hs) k n ((hy tm h1).trans hs2) e d.sz eby ez hk (σ.get j).cv d.df d.cells (by
          rw [← Dt.eta hsl, ← hc]; exact h2 j (by simp)) h0 h1', h, cL (x := x) (by simp [ho, Op.operands]) hs (fun _ hi => by rw [Sv.ids]; exact hi)⟩
      · rename_i d hs' hc
        obtain ⟨hsl, rfl, h0, h1', h⟩ := h
        exact ⟨[j], _, [], _, fun tm rs h1 h2 => aAw hdn t x y ho j ((hx tm h1).trans hs) k n ((hy tm h1).trans hs2) e d.sz eby ez hk (σ.get j).cv d.df d.cells hs' (by
          rw [← Dt.eta hsl, ← hc]; exact h2 j (by simp)) h0 h1', h, cL (x := x) (by simp [ho, Op.operands]) hs (fun _ hi => by rw [Sv.ids]; exact hi)⟩
      · exact h.elim
    · rename_i ts d hs
      obtain ⟨htg, hsl, rfl, h0, h1', h⟩ := h
      refine ⟨ts.map (·.1), _, [], _, fun tm rs h1 h2 => ?_, h, cL (x := x) (by simp [ho, Op.operands]) hs (fun _ hi => by rw [Sv.ids]; exact hi)⟩
      have h3 := aAu (E := E) (rs := rs) hdn t x y ho ts d.df d.cells k n ((hy tm h1).trans hs2) e d.sz eby ez hk ((hx tm h1).trans (hs.trans (by rw [← Dt.eta hsl]))) (cS (iU htg) h2) h0 h1'
      -- fewer cells
      intro a w K' Q hg hK
      refine h3 a w K' Q hg fun a' w' hg' => hK a' w' ?_
      obtain ⟨q1, q2, c, q3, q4, q5⟩ := hg'
      refine ⟨q1, q2, c, q3, fun s => ?_, q5⟩
      have q6 := q4 s
      cases hd : o.dst with
      | none => rw [hd] at q6; exact q6
      | some dd =>
        rw [hd] at q6
        simp only [wM, upd] at q6 ⊢
        split
        · rename_i e'
          rw [if_pos e'] at q6
          simp only [Sv.ok] at q6 ⊢
          refine ⟨q6.1, q6.2.1, fun htv => ?_⟩
          split
          · rename_i e1
            have q7 := PtrTo.take 1 (q6.2.2 htv)
            have e2 : ((d.cells.drop (n.toNat * d.sz)).take 1) = [d.at n.toNat] := by
              have hlt : n.toNat < d.cells.length := by rw [e1, Nat.mul_one] at h1'; exact h1'
              have e3 : d.at n.toNat = d.cells[n.toNat] := by simp [Dt.at, List.getD_eq_getElem?_getD, List.getElem?_eq_getElem hlt]
              rw [e1, Nat.mul_one, List.drop_eq_getElem_cons hlt, List.take_succ_cons, List.take_zero, e3]
            rw [e2] at q7
            exact q7
          · exact PtrTo.take d.sz (q6.2.2 htv)
        · rename_i e'
          rw [if_neg e'] at q6
          exact q6
    · rename_i j m hs
      exact ⟨[], _, [], _, fun tm rs h1 h2 => aAv hdn t x y ho j m ((hx tm h1).trans hs) k n ((hy tm h1).trans hs2) e esz eby ez hk h.1 h.2.1, h.2.2, bV⟩
    · exact h.elim
  · rename_i m esz k n hk hs2
    split at h
    · rename_i j p hs
      exact ⟨[], _, [], _, fun tm rs h1 h2 => aAY hdn t x y ho j p ((hx tm h1).trans hs) k n ((hy tm h1).trans hs2) m esz hk h.1 h.2.1, h.2.2, bV⟩
    · rename_i ts ds hs
      obtain ⟨htg, h0, h1', h⟩ := h
      exact ⟨ts.map (·.1), _, [], _, fun tm rs h1 h2 => wE hdn t x y ho ts ds ((hx tm h1).trans hs) (cS (iU htg) h2) k n ((hy tm h1).trans hs2) m esz hk h0 h1', h, cL (x := x) (by simp [ho, Op.operands]) hs (fun _ hi => by rw [Sv.ids]; exact hi)⟩
    · exact h.elim
  · exact h.elim
theorem aM5 (hdn:∀k,o.dst=some k→k<X.n) (op:BinOp) (t u:TypeId) (x y:Operand) (ho:o.op= .binOp op t x y u) (h:aBf op (σ.opd x) (σ.opd y) fun s=>K (σ.ap o.dst s [] σ.nx)):Fnd X E.P o σ K:=by
 have hx:∀tm,(∀z∈o.op.operands.toList,opd tm z=opd (lk σ.tm) z)→opd tm x=σ.opd x:=fun tm h1=>h1 x (by simp [ho,Op.operands])
 have hy:∀tm,(∀z∈o.op.operands.toList,opd tm z=opd (lk σ.tm) z)→opd tm y=σ.opd y:=fun tm h1=>h1 y (by simp [ho,Op.operands])
 unfold aBf at h
 split at h
 ·rename_i k a k' b hs1 hs2
  obtain⟨rfl,h⟩:=h
  have fin:∀r,aHp op k a b=some r→K (σ.ap o.dst (.v r) [] σ.nx)→Fnd X E.P o σ K:=fun r hr hK=>
   ⟨[],_,[],_,fun tm rs h1 _=>aAr hdn op t u x y ho k a b ((hx tm h1).trans hs1) ((hy tm h1).trans hs2) r hr,hK,bV⟩
  cases op<;>simp only at h
  case add=>
   cases k<;>first|exact fin _ rfl h|(refine fin (.int .i64 (a+b)) ?_ h.2;simp only [aHp];rw [Go.IntWalk.i64_in _ h.1])
  case sub=>
   cases k<;>first|exact fin _ rfl h|(refine fin (.int .i64 (a-b)) ?_ h.2;simp only [aHp];rw [Go.IntWalk.i64_in _ h.1])
  case mul=>
   cases k<;>first|exact fin _ rfl h|(refine fin (.int .i64 (a*b)) ?_ h.2;simp only [aHp];rw [Go.IntWalk.i64_in _ h.1])
  case quo=>
   obtain⟨hb,h⟩:=h
   cases k<;>first
    |exact⟨[],_,[],_,fun tm rs h1 _=>aEn hdn t u x y ho _ a b ((hx tm h1).trans hs1) ((hy tm h1).trans hs2) hb,h,bV⟩
    |(refine⟨[], .v (.int .i64 (a.tdiv b)),[],σ.nx,fun tm rs h1 _=>?_,h.2,bV⟩
      have:=aEn (E:=E) (rs:=rs) hdn t u x y ho _ a b ((hx tm h1).trans hs1) ((hy tm h1).trans hs2) hb
      rwa [Go.IntWalk.i64_in _ h.1]at this)
  case rem=>exact⟨[],_,[],_,fun tm rs h1 _=>aK8 hdn t u x y ho k a b ((hx tm h1).trans hs1) ((hy tm h1).trans hs2) h.1,h.2,bV⟩
  case eql=>exact fin _ rfl h
  case neq=>exact fin _ rfl h
  case lss=>exact fin _ rfl h
  case leq=>exact fin _ rfl h
  case gtr=>exact fin _ rfl h
  case geq=>exact fin _ rfl h
 ·exact h.elim
theorem aPq (hdn:∀k,o.dst=some k→k<X.n) (op:UnOp) (t:TypeId) (x:Operand) (ho:o.op= .unOp op t x) (h:aHb op (σ.opd x) fun s=>K (σ.ap o.dst s [] σ.nx)):Fnd X E.P o σ K:=by
 have hx:∀tm,(∀z∈o.op.operands.toList,opd tm z=opd (lk σ.tm) z)→opd tm x=σ.opd x:=fun tm h1=>h1 x (by simp [ho,Op.operands])
 unfold aHb at h
 split at h
 ·rename_i b hs
  exact⟨[],_,[],_,fun tm rs h1 _=>aK7 hdn t x ho b ((hx tm h1).trans hs),h,bV⟩
 ·rename_i n hs
  refine⟨[], .v (.int .i64 (0-n)),[],σ.nx,fun tm rs h1 _=>?_,h.2,bV⟩
  have:=aK6 (E:=E) (rs:=rs) hdn t x ho _ n ((hx tm h1).trans hs)
  rwa [Go.IntWalk.i64_in _ h.1]at this
 ·exact h.elim
theorem aK0 (hdn:∀k,o.dst=some k→k<X.n) (x y z:Operand) (ho:o.op= .pick x y z) (h:kE (σ.opd x) (K (σ.ap o.dst (σ.opd y) [] σ.nx)) (K (σ.ap o.dst (σ.opd z) [] σ.nx))):Fnd X E.P o σ K:=by
 have hx:∀tm,(∀z∈o.op.operands.toList,opd tm z=opd (lk σ.tm) z)→opd tm x=σ.opd x:=fun tm h1=>h1 x (by simp [ho,Op.operands])
 unfold kE at h
 split at h
 ·rename_i b hs
  cases b with
  |true=>exact⟨[],_,[],_,fun tm rs h1 _=>by
    rw [show σ.opd y=opd tm y from(h1 y (by simp [ho,Op.operands])).symm]
    exact aEm hdn x y z ho ((hx tm h1).trans hs),h.1 rfl,bV⟩
  |false=>exact⟨[],_,[],_,fun tm rs h1 _=>by
    rw [show σ.opd z=opd tm z from(h1 z (by simp [ho,Op.operands])).symm]
    exact aEl hdn x y z ho ((hx tm h1).trans hs),h.2 rfl,bV⟩
 ·exact h.elim
theorem aD8 (hdn:∀k,o.dst=some k→k<X.n) (x:Operand) (i:Nat) (ho:o.op= .extract x i) (h:aBg (σ.opd x) i fun s=>K (σ.ap o.dst s [] σ.nx)):Fnd X E.P o σ K:=by
 have hx:∀tm,(∀z∈o.op.operands.toList,opd tm z=opd (lk σ.tm) z)→opd tm x=σ.opd x:=fun tm h1=>h1 x (by simp [ho,Op.operands])
 unfold aBg at h
 split at h
 ·rename_i l hs
  split at h
  ·rename_i s hg
   exact⟨[],_,[],_,fun tm rs h1 _=>aCI hdn x i ho l ((hx tm h1).trans hs) s hg,h,bV⟩
  ·exact h.elim
 ·exact h.elim
end
end Go.Eng
end
section
namespace Go.Eng
open Go
section
variable {X:Cx} {E:Env} {o:Oper} {σ:Ss} {K:Ss→Prop}
theorem aM7 (hdn:∀k,o.dst=some k→k<X.n) (t:TypeId) (x:Operand) (ho:o.op= .call {callee:= .builtin .len,args:= #[x],argTypes:= #[t]}) (h:aBk (E.ti t).k (σ.opd x) σ fun s=>K (σ.ap o.dst s [] σ.nx)):Fnd X E.P o σ K:=by
 have hx:∀tm,(∀z∈o.op.operands.toList,opd tm z=opd (lk σ.tm) z)→opd tm x=σ.opd x:=fun tm h1=>h1 x (by simp [ho,Op.operands,Call.operands])
 unfold aBk at h
 split at h
 ·rename_i e esz eby ez hk
  split at h
  ·rename_i i hs
   split at h
   ·rename_i d hc
    obtain⟨hsl,rfl,h0,h⟩:=h
    exact⟨[i],_,[],_,fun tm rs h1 h2=>aCJ hdn t x ho i ((hx tm h1).trans hs) e d.sz eby ez hk (σ.get i).cv d.df d.cells (by rw [←Dt.eta hsl,←hc];exact h2 i (by simp)) d.len h0,h,cL (x:=x) (by simp [ho,Op.operands,Call.operands]) hs (fun _ hi=>by rw [Sv.ids];exact hi)⟩
   ·rename_i d hs' hc
    obtain⟨hsl,rfl,h0,h⟩:=h
    exact⟨[i],_,[],_,fun tm rs h1 h2=>aCM hdn t x ho i ((hx tm h1).trans hs) e d.sz eby ez hk (σ.get i).cv d.df d.cells hs' (by rw [←Dt.eta hsl,←hc];exact h2 i (by simp)) d.len h0,h,cL (x:=x) (by simp [ho,Op.operands,Call.operands]) hs (fun _ hi=>by rw [Sv.ids];exact hi)⟩
   ·exact h.elim
  ·rename_i ts d hs
   obtain⟨htg,hsl,rfl,h0,h⟩:=h
   exact⟨ts.map (·.1),_,[],_,fun tm rs h1 h2=>aCK hdn t x ho ts d.df d.cells e d.sz eby ez hk ((hx tm h1).trans (hs.trans (by rw [←Dt.eta hsl]))) (cS (iU htg) h2) d.len h0,h,cL (x:=x) (by simp [ho,Op.operands,Call.operands]) hs (fun _ hi=>by rw [Sv.ids];exact hi)⟩
  ·rename_i i n hs
   exact⟨[],_,[],_,fun tm rs h1 h2=>aCL hdn t x ho i n ((hx tm h1).trans hs) e esz eby ez hk,h,bV⟩
  ·rename_i b n c hs
   exact⟨[],_,[],_,fun tm rs h1 h2=>aFG hdn t x ho b n c ((hx tm h1).trans hs) e esz eby ez hk,h,bV⟩
  ·exact h.elim
 ·rename_i hk
  split at h
  ·rename_i b hs
   exact⟨[],_,[],_,fun tm rs h1 h2=>aCN hdn t x ho b ((hx tm h1).trans hs) hk,h,bV⟩
  ·exact h.elim
 ·exact h.elim
theorem aM6 (hdn:∀k,o.dst=some k→k<X.n) (t:TypeId) (x:Operand) (ho:o.op= .box t x) (h:(σ.opd x).cells.all Sv.one=true∧σ.get σ.nx=⟨0, .gone⟩∧K (σ.ap o.dst (.ptr σ.nx 0) [(σ.nx,⟨1, .box (σ.opd x).cells⟩)] (σ.nx+1))):Fnd X E.P o σ K:=by
 obtain⟨h1,h2,h3⟩:=h
 refine⟨[σ.nx],_,_,_,fun tm rs g1 g2=>?_,h3,fun i hi=> .inr (by simpa using hi)⟩
 have hx:opd tm x=σ.opd x:=g1 x (by simp [ho,Op.operands])
 have:=aK5 (E:=E) (tm:=tm) hdn t x ho (by rw [hx];exact h1) σ.nx ((g2 σ.nx (by simp)).trans h2)
 rwa [hx]at this
theorem aHV (hdn:∀k,o.dst=some k→k<X.n) (t:TypeId) (ho:o.op= .alloc t) (h:(E.ti t).known=true∧σ.get σ.nx=⟨0, .gone⟩∧K (σ.ap o.dst (.ptr σ.nx 0) [(σ.nx,⟨1, .box ((E.ti t).z.map Sv.v)⟩)] (σ.nx+1))):Fnd X E.P o σ K:=by
 obtain⟨h1,h2,h3⟩:=h
 exact⟨[σ.nx],_,_,_,fun tm rs _ g2=>aFE hdn t ho h1 σ.nx ((g2 σ.nx (by simp)).trans h2),h3,fun i hi=> .inr (by simpa using hi)⟩
theorem aHZ (t:TypeId) (x y:Operand) (ho:o.op= .store t x y) (h:o.dst=none∧pG (E.ti t) (σ.opd x) (σ.opd y) σ K):Fnd X E.P o σ K:=by
 obtain⟨hd,h⟩:=h
 have hx:∀tm,(∀z∈o.op.operands.toList,opd tm z=opd (lk σ.tm) z)→opd tm x=σ.opd x:=fun tm h1=>h1 x (by simp [ho,Op.operands])
 have hy:∀tm,(∀z∈o.op.operands.toList,opd tm z=opd (lk σ.tm) z)→opd tm y=σ.opd y:=fun tm h1=>h1 y (by simp [ho,Op.operands])
 unfold pG at h
 obtain⟨hk,h⟩:=h
 split at h
 ·rename_i i p hs
  split at h
  ·rename_i cells hc
   obtain⟨h1,h2,h3,h⟩:=h
   refine⟨[i], .dead,_,_,fun tm rs g1 g2=>?_,by rw [hd];exact h,cL (x:=x) (by simp [ho,Op.operands]) hs (fun _ hi=>by rw [Sv.ids];exact hi)⟩
   have:=aAy (X:=X) (E:=E) (tm:=tm) (rs:=rs) hd t x y ho i p ((hx tm g1).trans hs) hk (σ.get i).cv cells (by rw [←hc];exact g2 i (by simp)) (by rw [hy tm g1];exact h1) (by rw [hy tm g1];exact h2) (by rw [hy tm g1];exact h3)
   rwa [hy tm g1]at this
  ·rename_i d hc
   obtain⟨h1,hsl,h3,h⟩:=h
   split at h
   ·rename_i v hs2
    refine⟨[i], .dead,_,_,fun tm rs g1 g2=>?_,by rw [hd];exact h.2,cL (x:=x) (by simp [ho,Op.operands]) hs (fun _ hi=>by rw [Sv.ids];exact hi)⟩
    exact uL (E:=E) (tm:=tm) (rs:=rs) hd t x y ho i p ((hx tm g1).trans hs) hk h1 (σ.get i).cv d.sz d.df d.cells (by rw [←Dt.eta hsl,←hc];exact g2 i (by simp)) v ((hy tm g1).trans hs2) h.1 h3
   ·rename_i j hs2
    obtain⟨hij,h⟩:=h
    split at h
    ·rename_i e he
     refine⟨[i,j], .dead,_,_,fun tm rs g1 g2=>?_,by rw [hd];exact h,fun l hl=> .inr (by simpa [bP,Function.comp_def]using hl)⟩
     have:=tA (X:=X) (E:=E) (tm:=tm) (rs:=rs) hd t x y ho i p ((hx tm g1).trans hs) hk h1 (σ.get i).cv d.sz d.df d.cells (by rw [←Dt.eta hsl,←hc];exact g2 i (by simp)) j ((hy tm g1).trans hs2) hij (σ.get j).cv e (by rw [←he];exact g2 j (by simp)) h3
     rwa [fA (rs:=rsL σ.rs) (fun l hl=>g2 l (by simp at hl;simp [hl]))]at this
    ·exact h.elim
   ·exact h.elim
  ·rename_i d hs' hc
   obtain⟨h1,hsl,h3,hq,h⟩:=h
   obtain⟨s0,hs0⟩:∃s0,hs'=[(p,s0)]:=by
    match hs',hq with
    |[(q,s0)],hq=>simp at hq;subst hq;exact⟨s0,rfl⟩
   subst hs0
   split at h
   ·rename_i j hs2
    obtain⟨hij,h⟩:=h
    split at h
    ·rename_i e he
     refine⟨[i,j], .dead,_,_,fun tm rs g1 g2=>?_,by rw [hd];exact h,fun l hl=> .inr (by simpa [bP,Function.comp_def]using hl)⟩
     have:=tB (X:=X) (E:=E) (tm:=tm) (rs:=rs) hd t x y ho i p ((hx tm g1).trans hs) hk h1 (σ.get i).cv d.sz d.df d.cells s0 (by rw [←Dt.eta hsl,←hc];exact g2 i (by simp)) j ((hy tm g1).trans hs2) hij (σ.get j).cv e (by rw [←he];exact g2 j (by simp)) h3
     rwa [fA (rs:=rsL σ.rs) (fun l hl=>g2 l (by simp at hl;simp [hl]))]at this
    ·exact h.elim
   ·exact h.elim
  ·exact h.elim
 ·exact h.elim
theorem aFs (hdn : ∀ k, o.dst = some k → k < X.n) (t : TypeId) (x y : Operand) (ho : o.op = .call { callee := .builtin .append, args := #[x, y], argTypes := #[t, t] })
    (h : mG (E.ti t) (σ.opd x) (σ.opd y) σ fun i ru => K (σ.ap o.dst (.sl i) ru (σ.nx + 1))) : Fnd X E.P o σ K := by
  have hx : ∀ tm, (∀ z ∈ o.op.operands.toList, opd tm z = opd (lk σ.tm) z) → opd tm x = σ.opd x := fun tm h1 => h1 x (by simp [ho, Op.operands, Call.operands])
  have hy : ∀ tm, (∀ z ∈ o.op.operands.toList, opd tm z = opd (lk σ.tm) z) → opd tm y = σ.opd y := fun tm h1 => h1 y (by simp [ho, Op.operands, Call.operands])
  unfold mG at h
  split at h
  · rename_i e esz eby ez hk
    obtain ⟨h0, hez, hfr, h⟩ := h
    -- the destination
    have hdest : ∃ d J0, (∀ tm rs, (∀ z ∈ o.op.operands.toList, opd tm z = opd (lk σ.tm) z) → (∀ i ∈ J0, rs i = rsL σ.rs i) → aGW tm rs x esz d.cells J0) ∧
        aBm (σ.opd y) σ esz (E.ti t).dd J0 fun e J => (d.nc + e.nc) * eby ≤ 140737488355328 * esz ∧ d.nc + e.nc ≤ 9223372036854775807 ∧ K (σ.ap o.dst (.sl σ.nx) ((σ.nx, ⟨1, .arr (Dt.app esz (E.ti t).dd d e)⟩) :: bP (rsL σ.rs) (J0 ++ J)) (σ.nx + 1)) := by
      unfold yH at h
      split at h
      · rename_i hs
        exact ⟨.sl esz (E.ti t).dd [], [], fun tm rs g1 _ => .inl ⟨(hx tm g1).trans hs, rfl, rfl⟩, h⟩
      · rename_i i hs
        split at h
        · rename_i d hc
          obtain ⟨hsl, rfl, h⟩ := h
          exact ⟨d, [i], fun tm rs g1 g2 => .inr ⟨i, (σ.get i).cv, d.df, (hx tm g1).trans hs, by rw [← Dt.eta hsl, ← hc]; exact g2 i (by simp), rfl⟩, h⟩
        · exact h.elim
      · exact h.elim
    obtain ⟨d, J0, hD, h⟩ := hdest
    have hfr' : ∀ rs : Nat → Rs, rs σ.nx = rsL σ.rs σ.nx → rs σ.nx = ⟨0, .gone⟩ := fun rs g => g.trans hfr
    unfold aBm at h
    split at h
    · rename_i hs
      obtain ⟨hb, hm, h⟩ := h
      refine ⟨σ.nx :: J0, _, _, _, fun tm rs g1 g2 => ?_, h, fun l hl => .inr (by simpa [bP, Function.comp_def] using hl)⟩
      have := wC (E := E) (tm := tm) (rs := rs) hdn t x y ho e esz eby ez hk h0 hez d.cells J0 (hD tm rs g1 fun i hi => g2 i (by simp [hi])) ((hy tm g1).trans hs) (by simpa [Dt.nc, Dt.cells] using hb) (by simpa [Dt.nc, Dt.cells] using hm) σ.nx (hfr' rs (g2 _ (by simp)))
      rw [fA (rs := rsL σ.rs) (fun l hl => g2 l (by simp at hl; simp [hl]))] at this
      exact this
    · rename_i j hs
      split at h
      · rename_i es hc
        obtain ⟨hsl, rfl, hone, h⟩ := h
        split at h
        · rename_i hflat
          obtain ⟨hb, hm, h⟩ := h
          refine ⟨σ.nx :: j :: J0, _, _, _, fun tm rs g1 g2 => ?_, h, fun l hl => by
            simp only [List.mem_cons] at hl
            rcases hl with rfl | rfl | hl
            · exact .inr (by simp)
            · exact .inl (aE7 (x := y) (by simp [ho, Op.operands, Call.operands]) (by rw [hs]; simp [Sv.ids]))
            · exact .inr (by simp [bP, hl])⟩
          have := uI (E := E) (tm := tm) (rs := rs) hdn t x y ho e es.sz eby ez hk h0 hez d.cells es.cells J0 (hD tm rs g1 fun i hi => g2 i (by simp [hi])) j ((hy tm g1).trans hs) (σ.get j).cv es.df (by rw [← Dt.eta hsl, ← hc]; exact g2 j (by simp)) hflat hone hb hm σ.nx (hfr' rs (g2 _ (by simp)))
          rw [fA (rs := rsL σ.rs) (fun l hl => g2 l (by simp at hl; simp [hl]))] at this
          exact this
        · rename_i hflat
          obtain ⟨hj, hcv, hb, hm, h⟩ := h
          refine ⟨σ.nx :: j :: J0, _, _, _, fun tm rs g1 g2 => ?_, h, fun l hl => .inr (by simp [bP, Function.comp_def] at hl ⊢; rcases hl with hl | hl | hl <;> simp [hl])⟩
          have := uJ (E := E) (tm := tm) (rs := rs) hdn t x y ho e es.sz eby ez hk h0 hez d.cells es.cells J0 (hD tm rs g1 fun i hi => g2 i (by simp [hi])) j ((hy tm g1).trans hs) hj (σ.get j).cv es.df (by rw [← Dt.eta hsl, ← hc]; exact g2 j (by simp)) hcv hone hb hm σ.nx (hfr' rs (g2 _ (by simp)))
          rw [fA (rs := rsL σ.rs) (fun l hl => g2 l (by simp at hl; rcases hl with hl | hl <;> simp [hl]))] at this
          exact this
      · exact h.elim
    · rename_i ts es hs
      obtain ⟨htg, hsl, rfl, hone, hflat, hb, hm, h⟩ := h
      refine ⟨σ.nx :: (ts.map (·.1) ++ J0), _, _, _, fun tm rs g1 g2 => ?_, h, fun l hl => by
        simp only [List.mem_cons, List.mem_append] at hl
        rcases hl with rfl | hl | hl
        · exact .inr (by simp)
        · exact .inl (aE7 (x := y) (by simp [ho, Op.operands, Call.operands]) (by rw [hs, Sv.ids]; exact hl))
        · exact .inr (by simp [bP, hl])⟩
      have := wB (E := E) (tm := tm) (rs := rs) hdn t x y ho e es.sz eby ez hk h0 hez d.cells es.cells J0 (hD tm rs g1 fun i hi => g2 i (by simp [hi])) ts es.df ((hy tm g1).trans (hs.trans (by rw [← Dt.eta hsl]))) (cS (iU htg) fun i hi => g2 i (by simp at hi ⊢; exact .inr (.inl hi))) hflat hone hb hm σ.nx (hfr' rs (g2 _ (by simp)))
      rw [fA (rs := rsL σ.rs) (fun l hl => g2 l (by simp at hl; simp [hl]))] at this
      exact this
    · exact h.elim
  · exact h.elim
theorem aHW (hdn:∀k,o.dst=some k→k<X.n) (t:TypeId) (len:Nat) (parts:Array (Nat×Operand)) (ho:o.op= .buildSlice t len parts)
  (h:pD (E.ti t) len parts σ fun s ru=>K (σ.ap o.dst s ru (σ.nx+1))):Fnd X E.P o σ K:=by
 have hxs:∀tm,(∀z∈o.op.operands.toList,opd tm z=opd (lk σ.tm) z)→∀x∈parts.toList.map (·.2),opd tm x=σ.opd x:=fun tm h1 x hx=>h1 x (by simpa [ho,Op.operands]using hx)
 unfold pD at h
 split at h
 ·rename_i e esz eby ez hk
  obtain⟨h0,hlim,hpt,hfr,hc,h⟩:=h
  have hc':∀tm,(∀z∈o.op.operands.toList,opd tm z=opd (lk σ.tm) z)→(parts.toList.map (·.2)).all (fun x=>(opd tm x).cells.length==esz&&(opd tm x).cells.all Sv.one)=true:=fun tm g1=>by
   rw [List.all_eq_true]at hc⊢
   intro x hx
   rw [hxs tm g1 x hx];exact hc x hx
  have hf:∀tm,(∀z∈o.op.operands.toList,opd tm z=opd (lk σ.tm) z)→((parts.toList.map (·.2)).flatMap fun x=>(opd tm x).cells)=((parts.toList.map (·.2)).flatMap fun x=>(σ.opd x).cells):=fun tm g1=>by
   rw [List.flatMap_def,List.flatMap_def]
   congr 1
   exact List.map_congr_left fun x hx=>by rw [hxs tm g1 x hx]
  split at h
  ·rename_i ds J hab
   obtain⟨hn,h⟩:=h
   refine⟨σ.nx::J,_,_,_,fun tm rs g1 g2=>?_,h,fun l hl=> .inr (by simpa [bP,Function.comp_def]using hl)⟩
   have:=wD (E:=E) (tm:=tm) (rs:=rs) hdn t len parts ho hpt e esz eby ez hk h0 hlim (hc' tm g1) ds J (by rw [hf tm g1];exact qD hab fun j hj=>g2 j (by simp [hj])) hn σ.nx ((g2 _ (by simp)).trans hfr)
   rw [fA (rs:=rsL σ.rs) (fun l hl=>g2 l (by simp [hl]))]at this
   exact this
  ·refine⟨[σ.nx],_,_,_,fun tm rs g1 g2=>?_,h,fun i hi=> .inr (by simpa using hi)⟩
   have:=lN (E:=E) (tm:=tm) (rs:=rs) hdn t len parts ho hpt e esz eby ez hk hlim (hc' tm g1) σ.nx ((g2 _ (by simp)).trans hfr)
   rw [hf tm g1]at this
   exact this
 ·exact h.elim
theorem aKY (hdn:∀k,o.dst=some k→k<X.n) (t:TypeId) (x y:Operand) (ho:o.op= .makeSlice t x y) (h:tR (E.ti t) (σ.opd x) (σ.opd y) σ fun s ru=>K (σ.ap o.dst s ru (σ.nx+1))):Fnd X E.P o σ K:=by
 have hx:∀tm,(∀z∈o.op.operands.toList,opd tm z=opd (lk σ.tm) z)→opd tm x=σ.opd x:=fun tm h1=>h1 x (by simp [ho,Op.operands])
 have hy:∀tm,(∀z∈o.op.operands.toList,opd tm z=opd (lk σ.tm) z)→opd tm y=σ.opd y:=fun tm h1=>h1 y (by simp [ho,Op.operands])
 unfold tR at h
 split at h
 ·rename_i e eby z k l k' n hk hs1 hs2
  obtain⟨h1,h2,h3,h4,h5,h⟩:=h
  exact⟨[σ.nx],_,_,_,fun tm rs g1 g2=>aAx hdn t x y ho k k' l n ((hx tm g1).trans hs1) ((hy tm g1).trans hs2) e eby z hk h1 h2 h3 h4 σ.nx ((g2 _ (by simp)).trans h5),h,fun i hi=> .inr (by simpa using hi)⟩
 ·exact h.elim
theorem aCC (hdn:∀k,o.dst=some k→k<X.n) (f:FuncId) (first caps:Array Operand) (ho:o.op= .makeFunc (.func f) first caps) (h:first= #[]∧K (σ.ap o.dst (.fn f (caps.toList.map σ.opd)) [] σ.nx)):Fnd X E.P o σ K:=by
 obtain⟨rfl,h⟩:=h
 refine⟨[],_,[],_,fun tm rs g1 _=>?_,h,bV⟩
 have:=aA2 (E:=E) (tm:=tm) (rs:=rs) hdn f caps.toList (by simpa using ho)
 rwa [List.map_congr_left (g:=σ.opd) fun x hx=>g1 x (by simpa [ho,Op.operands]using hx)]at this
/-! ### Calls: what a match looks at -/
theorem vM {V:List Nat} {rs rs':Nat→Rs} (he:∀i∈V,rs' i=rs i) {s:Sv} {d:Dt} (h:s.view0 V rs d):s.view0 V rs' d:=by
 cases s with
 |v x=>exact h
 |bor ts d'=>
  simp only [Sv.view0]at h⊢
  exact⟨h.1,cS h.2.1 (fun i hi=>by obtain⟨p,hp,rfl⟩:=List.mem_map.1 hi;exact he _ (h.2.2 p hp)),h.2.2⟩
 |bptr ts ds'=>
  simp only [Sv.view0]at h⊢
  obtain⟨ds,h1,h2,h3,h4⟩:=h
  exact⟨ds,h1,h2,cS h3 (fun i hi=>by obtain⟨p,hp,rfl⟩:=List.mem_map.1 hi;exact he _ (h4 p hp)),h4⟩
 |sl i=>
  simp only [Sv.view0]at h⊢
  exact⟨h.1,by rw [he i h.1];exact h.2⟩
 |_=>simp [Sv.view0]at h
theorem nL {V:List Nat} {rs rs':Nat→Rs} (he:∀i∈V,rs' i=rs i):∀{l:List Sv} {ds:List Dt},dD V rs l ds→dD V rs' l ds
 |[],_,h=>h
 |s::l,ds,h=>by
  simp only [dD]at h⊢
  obtain⟨d,r,h1,h2,h3⟩:=h
  exact⟨d,r,h1,vM he h2,nL he h3⟩
theorem aFO {V:List Nat} {rs rs':Nat→Rs} (he:∀i∈V,rs' i=rs i) {s:Sv} {d:Dt} (h:s.view V rs d):s.view V rs' d:=by
 by_cases hb:∃i n,s= .bsl i n
 ·obtain⟨i,n,rfl⟩:=hb
  simp only [Sv.view]at h⊢
  obtain⟨h1,cells,cs,sz,df,h2,h3,h4,h5,h6,h7⟩:=h
  exact⟨h1,cells,cs,sz,df,by rw [he i h1];exact h2,h3,h4,h5,h6,nL he h7⟩
 ·have h0:s.view0 V rs d:=by cases s<;>first|exact h|exact absurd ⟨_,_,rfl⟩ hb
  have h1:=vM he h0
  cases s<;>first|exact h1|exact absurd ⟨_,_,rfl⟩ hb
theorem aEB {V:List Nat} {rs rs':Nat→Rs} (he:∀i∈V,rs' i=rs i) {s:Sv} {ds:List Dt} (h:s.viewP V rs ds):s.viewP V rs' ds:=by
 cases s with
 |bptr ts ds'=>
  simp only [Sv.viewP]at h⊢
  exact⟨h.1,cS h.2.1 (fun i hi=>by obtain⟨p,hp,rfl⟩:=List.mem_map.1 hi;exact he _ (h.2.2 p hp)),h.2.2⟩
 |ptr i o=>
  simp only [Sv.viewP]at h⊢
  refine⟨h.1,?_⟩
  rw [he i h.1]
  rcases h.2 with⟨cells,h2,h3⟩|h2
  ·exact .inl ⟨cells,h2,nL he h3⟩
  ·exact .inr h2
 |_=>simp [Sv.viewP]at h
mutual
theorem mt_congr {ML:List (Nat×Nat)} {V:List Nat} {rs rs' rs0:Nat→Rs} (he:∀i∈V,rs' i=rs i):∀(a b:Sv),Sv.mt ML V rs rs0 a b→Sv.mt ML V rs' rs0 a b
 |a, .bor ts d,h=>by simp only [Sv.mt]at h⊢;exact⟨h.1,h.2.1,aFO he h.2.2⟩
 |a, .bptr ts d,h=>by simp only [Sv.mt]at h⊢;exact⟨h.1,aEB he h.2⟩
 | .agg l, .agg m,h=>by simp only [Sv.mt]at h⊢;exact fY he l m h
 | .tup l, .tup m,h=>by simp only [Sv.mt]at h⊢;exact fY he l m h
 | .fn f l, .fn g m,h=>by simp only [Sv.mt]at h⊢;exact⟨h.1,fY he l m h.2⟩
 |a, .v x,h=>by cases a<;>first|(simp [Sv.mt]at h;done)|(simp only [Sv.mt]at h⊢;exact h)
 |a, .sl x,h=>by cases a<;>first|(simp [Sv.mt]at h;done)|(simp only [Sv.mt]at h⊢;exact h)
 |a, .ptr x _,h=>by cases a<;>first|(simp [Sv.mt]at h;done)|(simp only [Sv.mt]at h⊢;exact h)
 |a, .bsl x _,h=>by cases a<;>first|(simp [Sv.mt]at h;done)|(simp only [Sv.mt]at h⊢;exact h)
 |a, .dead,h=>by cases a<;>simp only [Sv.mt]
 | .dead, .agg _,h=>by simp [Sv.mt]at h
 | .v _, .agg _,h=>by simp [Sv.mt]at h
 | .bor _ _, .agg _,h=>by simp [Sv.mt]at h
 | .bptr _ _, .agg _,h=>by simp [Sv.mt]at h
 | .sl _, .agg _,h=>by simp [Sv.mt]at h
 | .ptr _ _, .agg _,h=>by simp [Sv.mt]at h
 | .bsl _ _, .agg _,h=>by simp [Sv.mt]at h
 | .tup _, .agg _,h=>by simp [Sv.mt]at h
 | .fn _ _, .agg _,h=>by simp [Sv.mt]at h
 | .dead, .tup _,h=>by simp [Sv.mt]at h
 | .v _, .tup _,h=>by simp [Sv.mt]at h
 | .bor _ _, .tup _,h=>by simp [Sv.mt]at h
 | .bptr _ _, .tup _,h=>by simp [Sv.mt]at h
 | .sl _, .tup _,h=>by simp [Sv.mt]at h
 | .ptr _ _, .tup _,h=>by simp [Sv.mt]at h
 | .bsl _ _, .tup _,h=>by simp [Sv.mt]at h
 | .agg _, .tup _,h=>by simp [Sv.mt]at h
 | .fn _ _, .tup _,h=>by simp [Sv.mt]at h
 | .dead, .fn _ _,h=>by simp [Sv.mt]at h
 | .v _, .fn _ _,h=>by simp [Sv.mt]at h
 | .bor _ _, .fn _ _,h=>by simp [Sv.mt]at h
 | .bptr _ _, .fn _ _,h=>by simp [Sv.mt]at h
 | .sl _, .fn _ _,h=>by simp [Sv.mt]at h
 | .ptr _ _, .fn _ _,h=>by simp [Sv.mt]at h
 | .bsl _ _, .fn _ _,h=>by simp [Sv.mt]at h
 | .agg _, .fn _ _,h=>by simp [Sv.mt]at h
 | .tup _, .fn _ _,h=>by simp [Sv.mt]at h
theorem fY {ML:List (Nat×Nat)} {V:List Nat} {rs rs' rs0:Nat→Rs} (he:∀i∈V,rs' i=rs i):∀(l m:List Sv),Sv.mtL ML V rs rs0 l m→Sv.mtL ML V rs' rs0 l m
 |[],[],_=>by simp [Sv.mtL]
 |a::l,b::m,h=>by simp only [Sv.mtL]at h⊢;exact⟨mt_congr he a b h.1,fY he l m h.2⟩
 |[],_::_,h=>by simp [Sv.mtL]at h
 |_::_,[],h=>by simp [Sv.mtL]at h
end
theorem Rk.mt_congr {ML:List (Nat×Nat)} {V:List Nat} {rs rs' rs0:Nat→Rs} (he:∀i∈V,rs' i=rs i) {a b:Rk} (h:Rk.mt ML V rs rs0 a b):Rk.mt ML V rs' rs0 a b:=by
 cases a<;>cases b<;>first|exact h|exact fY he _ _ h|exact⟨fY he _ _ h.1,h.2⟩
theorem rT {rs rs':Nat→Rs} {L0:List (Nat×Rs)} {ML:List (Nat×Nat)} {V:List Nat} (h:CallOk rs L0 ML V) (he:∀i∈V,rs' i=rs i) (hm:∀i∈ML.map (·.2),rs' i=rs i):CallOk rs' L0 ML V:=
 ⟨h.n1,h.n2,h.vm,fun i hi=>by rw [he i hi];exact h.va i hi,h.l0,h.inn,fun p hp=>by
  rw [hm p.2 (List.mem_map.2 ⟨p,hp,rfl⟩)]
  rcases h.res p hp with⟨h1,h2,h3⟩|h1
  ·exact .inl ⟨h1,h2,Rk.mt_congr he h3⟩
  ·exact .inr h1⟩
end
end Go.Eng
end
section
namespace Go.Eng
open Go
section
variable {X:Cx} {E:Env} {o:Oper} {σ:Ss} {K:Ss→Prop}
theorem aKW (hdn:∀k,o.dst=some k→k<X.n) (x:Operand) (args:Array Operand) (tys:Array TypeId) (ho:o.op= .call {callee:= .value x,args:=args,argTypes:=tys})
  (h:EvCall E (σ.opd x) (args.toList.map σ.opd) σ fun s ru=>K (σ.ap o.dst s ru (zB σ.nx ru))):Fnd X E.P o σ K:=by
 obtain⟨f,caps,es,L0,r,L1,ML,V,hs,hV,hf,hsp,hco,hm,h⟩:=h
 have hft:gH σ o=bL (rsL σ.rs) 3 ((σ.opd x).ids++(args.toList.map σ.opd).flatMap Sv.ids):=by
  simp [gH,aAP,qQ,ho,Op.operands,Call.operands,List.flatMap_map]
 refine⟨V++ML.map (·.2),_,_,_,fun tm rs g1 g2=>?_,h,fun i hi=>?foot⟩
 case foot=>
  rcases List.mem_append.1 hi with hi|hi
  ·exact .inl (by rw [hft];exact hV i hi)
  ·exact .inr (by simpa [cR,aU,Function.comp_def]using hi)
 have he:∀i∈V,rs i=rsL σ.rs i:=fun i hi=>g2 i (by simp [hi])
 have hM:∀i∈ML.map (·.2),rs i=rsL σ.rs i:=fun i hi=>g2 i (List.mem_append_right _ hi)
 have hx:opd tm x=σ.opd x:=g1 x (by simp [ho,Op.operands,Call.operands])
 have hargs:args.toList.map (opd tm)=args.toList.map σ.opd:=List.map_congr_left fun y hy=>g1 y (by
  simp only [ho,Op.operands,Call.operands]
  simp at hy⊢
  exact .inr hy)
 have:=aH7 (X:=X) (E:=E) (tm:=tm) (rs:=rs) hdn x args.toList tys (by simpa using ho) f caps (hx.trans hs) hf es L0 r L1 hsp ML V (rT hco he hM) (by rw [hargs];exact fY he _ _ hm)
 rw [rU _ he hM]at this
 exact this
theorem aH0 (hk:E.hk X.c0 X.rs0) (hdn:∀k,o.dst=some k→k<X.n) (x:Operand) (args:Array Operand) (tys:Array TypeId) (l:Nat) (hx0:σ.opd x= .v (.func (.yield l) #[] #[])) (ho:o.op= .call {callee:= .value x,args:=args,argTypes:=tys})
  (h:EvYield E l (args.toList.map σ.opd) σ fun s ru=>K (σ.ap o.dst s ru (zB σ.nx ru))):Fnd X E.P o σ K:=by
 obtain⟨es,L0,r,L1,ML,V,H,hV,hsp,hco,hm,hH,h⟩:=h
 have hft:gH σ o=bL (rsL σ.rs) 3 ((σ.opd x).ids++(args.toList.map σ.opd).flatMap Sv.ids):=by
  simp [gH,aAP,qQ,ho,Op.operands,Call.operands,List.flatMap_map]
 refine⟨V++ML.map (·.2),_,_,_,fun tm rs g1 g2=>?_,h,fun i hi=>?foot⟩
 case foot=>
  rcases List.mem_append.1 hi with hi|hi
  ·exact .inl (by rw [hft,hx0];exact hV i hi)
  ·exact .inr (by simpa [cR,aU,Function.comp_def]using hi)
 have he:∀i∈V,rs i=rsL σ.rs i:=fun i hi=>g2 i (by simp [hi])
 have hM:∀i∈ML.map (·.2),rs i=rsL σ.rs i:=fun i hi=>g2 i (List.mem_append_right _ hi)
 have hx:opd tm x=σ.opd x:=g1 x (by simp [ho,Op.operands,Call.operands])
 have hargs:args.toList.map (opd tm)=args.toList.map σ.opd:=List.map_congr_left fun y hy=>g1 y (by
  simp only [ho,Op.operands,Call.operands]
  simp at hy⊢
  exact .inr hy)
 have:=aFH (X:=X) (E:=E) (tm:=tm) (rs:=rs) hdn x args.toList tys (by simpa using ho) l (hx.trans hx0) es L0 r L1 H hsp ML V (rT hco he hM) (by rw [hargs];exact fY he _ _ hm) (fun c hc=>hH X c hk hc)
 rw [rU _ he hM]at this
 exact this
theorem aHX (hk:E.hk X.c0 X.rs0) (hdn:∀k,o.dst=some k→k<X.n) (x:Operand) (args:Array Operand) (tys:Array TypeId) (ho:o.op= .call {callee:= .value x,args:=args,argTypes:=tys})
  (h:pF E (σ.opd x) (args.toList.map σ.opd) σ fun s ru=>K (σ.ap o.dst s ru (zB σ.nx ru))):Fnd X E.P o σ K:=by
 unfold pF at h
 split at h
 ·rename_i l f c hx
  obtain⟨rfl,rfl,h⟩:=h
  exact aH0 hk hdn x args tys l hx ho h
 ·exact aKW hdn x args tys ho h
theorem kM (hk:E.hk X.c0 X.rs0) (hp:qQ o.op=3) (hdn:∀k,o.dst=some k→k<X.n) (h:cG E o.dst o.op σ K):Fnd X E.P o σ K:=by
 obtain⟨foot,sv,ru,nx,h1,h2,h3⟩:=h
 exact⟨foot,sv,ru,nx,h1 X o hk rfl rfl hdn,h2,fun i hi=>by
  have hm:aAP o.op=false:=by
   unfold qQ at hp
   unfold aAP
   split at hp<;>first|(exact absurd hp (by decide))|(split<;>simp_all)
  unfold gH;rw [hm,if_neg (by decide),hp];exact h3 i hi⟩
theorem tP {fs:List (Nat×Nat)} {K:List Sv→Prop}:∀(ps:List (Nat×Sv)) (cs:List Sv),iC fs cs K ps→∃cells,K cells∧iC fs cs (fun c=>c=cells) ps
 |[],cs,h=>⟨cs,h,rfl⟩
 |(i,s)::r,cs,h=>by
  simp only [iC]at h⊢
  split at h
  ·exact h.elim
  ·obtain⟨h1,h2,h3,h4⟩:=h
   obtain⟨cells,g1,g2⟩:=tP r _ h4
   exact⟨cells,g1,h1,h2,h3,g2⟩
theorem aM4 (hdn:∀k,o.dst=some k→k<X.n) (t:TypeId) (parts:Array (Nat×Operand)) (ho:o.op= .build t parts) (h:aBe (E.ti t) (parts.toList.map fun p=>(p.1,σ.opd p.2)) fun s=>K (σ.ap o.dst s [] σ.nx)):Fnd X E.P o σ K:=by
 unfold aBe at h
 split at h
 ·rename_i fs hk
  obtain⟨cells,h1,h2⟩:=tP _ _ h
  refine⟨[],_,[],_,fun tm rs g1 _=>?_,h1,bV⟩
  refine aK4 hdn t parts ho fs hk cells ?_
  have:(parts.toList.map fun p=>(p.1,opd tm p.2))=parts.toList.map fun p=>(p.1,σ.opd p.2):=List.map_congr_left fun p hp=>by
   rw [g1 p.2 (by simp only [ho,Op.operands];exact List.mem_map.2 ⟨p,hp,rfl⟩)];rfl
  rw [this];exact h2
 ·rename_i n esz hk
  obtain⟨cells,h1,h2⟩:=tP _ _ h
  refine⟨[],_,[],_,fun tm rs g1 _=>?_,h1,bV⟩
  refine aH6 hdn t parts ho n esz hk cells ?_
  have:(parts.toList.map fun p=>(p.1,opd tm p.2))=parts.toList.map fun p=>(p.1,σ.opd p.2):=List.map_congr_left fun p hp=>by
   rw [g1 p.2 (by simp only [ho,Op.operands];exact List.mem_map.2 ⟨p,hp,rfl⟩)];rfl
  rw [this];exact h2
 ·exact h.elim
theorem qS (hk:E.hk X.c0 X.rs0) (hdn:∀k,o.dst=some k→k<X.n) (h:jI E o.dst o.op σ K):Fnd X E.P o σ K:=by
 obtain⟨d,op,ty,pos,after,gd⟩:=o
 cases op<;>simp only [jI]at h<;>try exact kM hk rfl hdn h
 case move x=>exact aKZ hdn x rfl h
 case assign x=>exact aFt hdn x rfl h
 case pick x y z=>exact aK0 hdn x y z rfl h
 case alloc t=>exact aHV hdn t rfl h
 case box t x=>exact aM6 hdn t x rfl h
 case buildSlice t len parts=>exact aHW hdn t len parts rfl h
 case load t x=>exact aKX hdn t x rfl h
 case store t x y=>exact aHZ t x y rfl h
 case nilCheck x=>exact aCD hdn x rfl h
 case binOp op t x y u=>
  split at h
  ·exact kM hk rfl hdn h
  ·exact kM hk rfl hdn h
  ·exact kM hk rfl hdn h
  ·exact kM hk rfl hdn h
  ·exact aM5 hdn op t u x y rfl h
 case build t parts=>exact aM4 hdn t parts rfl h
 case unOp op t x=>exact aPq hdn op t x rfl h
 case makeFunc fn first caps=>
  cases fn<;>simp only at h<;>try exact h.elim
  exact aCC hdn _ first caps rfl h
 case makeSlice t x y=>exact aKY hdn t x y rfl h
 case fieldAddr s x f=>exact aAS hdn s x f rfl h
 case indexAddr t x y=>exact aHY hdn t x y rfl h
 case extract x i=>exact aD8 hdn x i rfl h
 case call c=>
  obtain⟨cal,args,tys⟩:=c
  cases cal with
  |value x=>exact aHX hk hdn x args tys rfl h
  |invoke _ _=>exact kM hk rfl hdn h
  |builtin b=>
   cases b<;>simp only at h<;>try exact kM hk rfl hdn h
   case append=>
    split at h
    ·rename_i x y t t' e1 e2
     obtain⟨rfl,h⟩:=h
     have a1:args= #[x,y]:=by apply Array.ext';simpa using e1
     have a2:tys= #[t,t]:=by apply Array.ext';simpa using e2
     subst a1;subst a2
     exact aFs hdn t x y rfl h
    ·exact h.elim
   case len=>
    split at h
    ·rename_i x t e1 e2
     have a1:args= #[x]:=by apply Array.ext';simpa using e1
     have a2:tys= #[t]:=by apply Array.ext';simpa using e2
     subst a1;subst a2
     exact aM7 hdn t x rfl h
    ·exact h.elim
end
/-! ### A region in the order of its text -/
def iD (s:Sv) (want:Bool) (A B:Prop):Prop:=
 match s with
 | .v (.bool b)=>(b=want→A)∧(b= !want→B)
 | .v (.tuple _)=>B
 |_=>False
def cX (ops:List Oper) (j:Nat):Option Nat:=(ops[j]?).bind (·.dst)
def aHg (ops:List Oper) (σ:Ss) (j:Nat):Sv:=
 match cX ops j with
 |some d=>lk σ.tm d
 |none=> .dead
def evO (E:Env) (opsA:List Oper) (o:Oper) (σ:Ss) (K:Ss→Prop):Prop:=
 match o.guard with
 |none=>jI E o.dst o.op σ K
 |some (j,want)=>iD (aHg opsA σ j) want (jI E o.dst o.op σ K) (K (σ.ap o.dst (.v undef) [] σ.nx))
def dP (E:Env) (opsA:List Oper):List Oper→Ss→(Ss→Prop)→Prop
 |[],σ,K=>K σ
 |o::r,σ,K=>evO E opsA o σ fun σ'=>dP E opsA r σ' K
section
variable {X:Cx} {E:Env} {σ:Ss} {K:Ss→Prop}
theorem aDq {X:Cx} {tm:Nat→Sv} {rs:Nat→Rs} {a:Act} {w:World} (h:Gam X tm rs a w):Gam X tm rs a {w with drawn:=w.drawn+1}:=by
 obtain⟨h1,h2,c,hp,ht,hpin⟩:=h
 have hag:∀R,Agree R w {w with drawn:=w.drawn+1}:=fun _ _ _=>rfl
 have hx:Ext X.S w {w with drawn:=w.drawn+1} c c rs rs:=⟨fun _=>Nat.le_refl _,hag _,fun _ _=>⟨rfl,rfl⟩,fun _ _ _ h=>⟨h,fun _ h=>h,hag _⟩⟩
 exact⟨h1,h2,c,⟨hp.os,hp.tape,hp.output,hp.size,hp.unch,hp.sub,hp.ult,fun i=>Rk.ok_ext hx (hag _) _ (hp.res i),hp.flt,hp.fu,hp.dis,hp.one⟩,fun s=>Sv.ok_ext hx _ _ (ht s),hpin⟩
theorem iQ {ops:List Oper} {a:Act} {w:World} {tm:Nat→Sv} {rs:Nat→Rs} (hg:Gam X tm rs a w) {j d:Nat} (hj:cX ops j=some d) {v:Value} (hv:tm d= .v v) (hd:d<X.n):
  yielded ops.toArray a.tmps j=match v with| .bool b=>some b|_=>none:=by
 obtain⟨_,h2,c,hp,ht,_⟩:=hg
 have h3:=ht d
 rw [hv]at h3
 simp only [Sv.ok]at h3
 have h4:a.tmps[d]? =some v:=by
  have:d<a.tmps.size:=by omega
  simp only [Array.getD,this,dite_true]at h3
  simp [this]
  exact h3
 unfold yielded
 have h5:(ops.toArray[j]?).bind (·.dst)=some d:=by simpa [cX]using hj
 rw [h5]
 simp only [Option.bind_some,h4]
 cases v<;>rfl
theorem tS (hk:E.hk X.c0 X.rs0) {opsA:List Oper} {o:Oper} (hn:∀o'∈opsA,∀k,o'.dst=some k→k<X.n) (ho:∀k,o.dst=some k→k<X.n) (h:evO E opsA o σ K):
  (∃foot sv ru nx,xO X E.P o (lk σ.tm) (rsL σ.rs) foot sv ru∧K (σ.ap o.dst sv ru nx)∧(∀i∈foot,i∈gH σ o∨i∈ru.map (·.1))∧(o.guard=none∨∃j want d,o.guard=some (j,want)∧cX opsA j=some d∧d<X.n∧lk σ.tm d= .v (.bool want)))∨
  (K (σ.ap o.dst (.v undef) [] σ.nx)∧∃j want d v,o.guard=some (j,want)∧cX opsA j=some d∧d<X.n∧lk σ.tm d= .v v∧v≠ .bool want):=by
 unfold evO at h
 split at h
 ·rename_i hg
  obtain⟨foot,sv,ru,nx,h1,h2,h3⟩:=qS hk ho h
  exact .inl ⟨foot,sv,ru,nx,h1,h2,h3, .inl hg⟩
 ·rename_i j want hg
  unfold iD aHg at h
  have hd:∀d,cX opsA j=some d→d<X.n:=fun d hd=>by
   unfold cX at hd
   cases ho':opsA[j]? with
   |none=>rw [ho']at hd;cases hd
   |some o'=>rw [ho']at hd;exact hn o' (List.mem_of_getElem? ho') d hd
  cases hj:cX opsA j with
  |none=>rw [hj]at h;exact h.elim
  |some d=>
   rw [hj]at h
   simp only at h
   split at h
   ·rename_i b hb
    by_cases e:b=want
    ·obtain⟨foot,sv,ru,nx,h1,h2,h3⟩:=qS hk ho (h.1 e)
     exact .inl ⟨foot,sv,ru,nx,h1,h2,h3, .inr ⟨j,want,d,hg,hj,hd d hj,by rw [hb,e]⟩⟩
    ·refine .inr ⟨h.2 (by cases b<;>cases want<;>simp_all),j,want,d, .bool b,hg,hj,hd d hj,hb,by simpa using e⟩
   ·rename_i vs hv
    exact .inr ⟨h,j,want,d, .tuple vs,hg,hj,hd d hj,hv,by simp⟩
   ·exact h.elim
theorem yI (hk:E.hk X.c0 X.rs0) {opsA:List Oper} (hn:∀o'∈opsA,∀k,o'.dst=some k→k<X.n):∀(l:List Oper) (σ:Ss),(∀o∈l,∀k,o.dst=some k→k<X.n)→dP E opsA l σ K→
  ∀a w (Q:Exit→Act→World→Prop),Gam X (lk σ.tm) (rsL σ.rs) a w→(∀s a' w',Gam X (lk s.tm) (rsL s.rs) a' w'→K s→Q .normal a' w')→wpListIn X.F 0 E.P opsA.toArray Q l a w
 |[],σ,_,h,a,w,Q,hg,hQ=>wpListIn_nil (hQ σ a w hg h)
 |o::l,σ,hl,h,a,w,Q,hg,hQ=>by
  simp only [dP]at h
  have ih:=fun(s:Ss) (hs:dP E opsA l s K)=>yI hk hn l s (fun o ho=>hl o (by simp [ho])) hs
  rcases tS hk hn (hl o (by simp)) h with⟨foot,sv,ru,nx,h1,h2,_,h3⟩|⟨h2,j,want,d,v,g1,g2,g3,g4,g5⟩
  ·have hwant:Region.wanted o (yielded opsA.toArray a.tmps)=true:=by
    rcases h3 with h3|⟨j,want,d,g1,g2,g3,g4⟩
    ·simp [Region.wanted,h3]
    ·simp [Region.wanted,g1,iQ hg g2 g4 g3]
   unfold wpListIn
   rw [if_pos hwant]
   refine h1 _ _ (fun _ _=>rfl) (fun _ _=>rfl) a w _ Q hg fun a' w' hg'=>?_
   refine ih _ h2 a' w' Q ?_ hQ
   rw [yZ,rC];exact hg'
  ·have hwant:Region.wanted o (yielded opsA.toArray a.tmps)=false:=by
    simp only [Region.wanted,g1,iQ hg g2 g4 g3]
    cases v<;>simp_all
   unfold wpListIn
   rw [if_neg (by rw [hwant];exact Bool.false_ne_true)]
   refine⟨fun f _=>X.F_fn f,ih _ h2 _ w Q ?_ hQ⟩
   obtain⟨q1,q2,c,hp,ht,hpin⟩:=hg
   rw [yZ,rC]
   exact bO q1 q2 ht hpin (Ext.refl _ _ _ _) hp (hl o (by simp)) (by simp [Sv.ok])
end
end Go.Eng
end
