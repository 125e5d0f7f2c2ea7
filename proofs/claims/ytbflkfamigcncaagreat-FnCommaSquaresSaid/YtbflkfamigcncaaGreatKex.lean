/- Several texts in one: EngRF, EngBX, EngMp, EngCl, EngDr, EngHk, EngUn, EngNm. -/
import Derived.Test.YtbflkfamigcncaaGreatKdx
import Derived.RangeFuncIn
import Derived.Maps.Views
import Derived.Laws.BytesArg
import Derived.Carry
set_option linter.unusedVariables false
set_option linter.unusedSimpArgs false
section
namespace Go.Eng
open Go
def aU (l:Nat) (r:Loop):Ab:=⟨fun w _ F=>F l∧w.heap[l]? =some (.loop r),fun ag h=>⟨h.1,(ag _ h.1).trans h.2⟩⟩
theorem aAA {w0 w:World} {U S:Nat→Prop} {c:Nat→Cn} {rs:Nat→Rs} (hp:Hp w0 U S c rs w) {m cv l:Nat} {r:Loop} (hm:rs m=⟨cv, .ab (aU l r)⟩):(c m).fp l∧w.heap[l]? =some (.loop r):=by
 have h:=hp.res m
 rw [hm]at h
 exact h
theorem aAB {X:Cx} {w:World} {c:Nat→Cn} {rs:Nat→Rs} (hp:Hp X.w0 X.U X.S c rs w) {m cv l:Nat} {r:Loop} (hm:rs m=⟨cv, .ab (aU l r)⟩) (hcv:1≤cv) (r':Loop):
  Hp X.w0 X.U X.S c (upd rs m ⟨cv+1, .ab (aU l r')⟩) (w.putObj l (.loop r'))∧Ext X.S w (w.putObj l (.loop r')) c c rs (upd rs m ⟨cv+1, .ab (aU l r')⟩):=by
 obtain⟨h1,h2⟩:=aAA hp hm
 have hl:l<w.heap.size:=(Array.getElem?_eq_some_iff.1 h2).1
 refine gQ (w':=w.putObj l (.loop r')) hp m (by rw [hm];exact hcv) (cv+1) (by rw [hm];exact Nat.lt_succ_self _) (.ab (aU l r')) rfl rfl rfl World.putObj_size (fun b hb=>?_) (fun _=>⟨h1,World.putObj_heap_same hl⟩)
 exact World.putObj_heap_other (fun e=>hb (by rw [e];exact h1))
def uK:List Nat→List Sv→List (Nat×Sv)→List (Nat×Sv)
 |p::ps,s::ss,t=>uK ps ss ((p,s)::t)
 |_,_,t=>t
theorem aD4 {w:World} {S:Nat→Prop} {c:Nat→Cn} {rs:Nat→Rs}:∀(ps:List Nat) (ss:List Sv) (vs:List Value) (tmps:Array Value) (tm:List (Nat×Sv)),Sv.okL w S c rs ss vs→ps.length=ss.length→(∀p∈ps,p<tmps.size)→
  (∀s,(lk tm s).ok w S c rs (tmps.getD s undef))→((ps.zip vs).foldl (fun t (p:Nat×Value)=>t.setIfInBounds p.1 p.2) tmps).size=tmps.size∧∀s,(lk (uK ps ss tm) s).ok w S c rs (((ps.zip vs).foldl (fun t (p:Nat×Value)=>t.setIfInBounds p.1 p.2) tmps).getD s undef)
 |[],[],vs,tmps,tm,h,_,_,ht=>by simp [Sv.okL]at h;subst h;exact⟨rfl,ht⟩
 |[],_::_,_,_,_,_,h,_,_=>by simp at h
 |_::_,[],_,_,_,_,h,_,_=>by simp at h
 |p::ps,s::ss,vs,tmps,tm,h,hl,hp,ht=>by
  obtain⟨v,r,rfl,h1,h2⟩:=h
  have hps:p<tmps.size:=hp p (by simp)
  have ih:=aD4 ps ss r (tmps.setIfInBounds p v) ((p,s)::tm) h2 (by simpa using hl) (fun q hq=>by rw [Array.size_setIfInBounds];exact hp q (by simp [hq])) (fun t=>by
   simp only [lk]
   split
   ·rename_i e
    subst e
    have:(tmps.setIfInBounds t v).getD t undef=v:=by simp [Array.getD,hps]
    rw [this];exact h1
   ·rename_i e
    have:(tmps.setIfInBounds p v).getD t undef=tmps.getD t undef:=by
     simp only [Array.getD_eq_getD_getElem?]
     rw [Array.getElem?_setIfInBounds_ne (by omega)]
    rw [this];exact ht t)
  rw [Array.size_setIfInBounds]at ih
  simpa only [List.zip_cons_cons,List.foldl_cons,uK]using ih
def bI (r:Loop):Bool→Loop
 |false=> {r with state:= .ready,pending:=none}
 |true=> {r with state:= .done,pending:=some .ret}
def aLD (l m:Nat) (r:Loop) (stop:Bool) (L0 L1:List (Nat×Rs)):Exit→Ss→Prop
 | .normal,τ=>stop=false∧∃cv ML,rsL τ.rs m=⟨cv, .ab (aU l {r with state:= .busy})⟩∧1≤cv∧iW L0 ML ⟨[],(m,⟨cv+1, .ab (aU l (bI r false))⟩)::τ.rs,0⟩ ⟨[],L1,0⟩
 | .ret,τ=>stop=true∧∃cv ML,rsL τ.rs m=⟨cv, .ab (aU l {r with state:= .busy})⟩∧1≤cv∧iW L0 ML ⟨[],(m,⟨cv+1, .ab (aU l (bI r true))⟩)::τ.rs,0⟩ ⟨[],L1,0⟩
 |_,_=>False
theorem aGy {X:Cx} {l m:Nat} {r:Loop} {stop:Bool} {L0 L1:List (Nat×Rs)} (hX:X.rs0=rsL L0) {τ:Ss} {a:Act} {w:World} (hg:aGQ X (lk τ.tm) (rsL τ.rs) a w) {cv:Nat} {ML:List (Nat×Nat)} (hm:rsL τ.rs m=⟨cv, .ab (aU l {r with state:= .busy})⟩) (hcv:1≤cv)
  (hs:iW L0 ML ⟨[],(m,⟨cv+1, .ab (aU l (bI r stop))⟩)::τ.rs,0⟩ ⟨[],L1,0⟩):
  w.heap[l]? =some (.loop {r with state:= .busy})∧∃c1,Hp X.w0 X.U X.S c1 (rsL L1) (w.putObj l (.loop (bI r stop)))∧(∀i,1≤(rsL L0 i).cv→1≤(rsL L1 i).cv∧(c1 i).blk=(X.c0 i).blk∧(c1 i).hdr=(X.c0 i).hdr):=by
 obtain⟨w1,U1,ds,hr,_,_,c,hp,_,hpin⟩:=hg
 refine⟨(aAA hp hm).2,?_⟩
 obtain⟨hp2,hx2⟩:=aAB (X:=X.at w1 U1 ds) hp hm hcv (bI r stop)
 have hp3:=(Hp.shut (l:=[]) hr hp2 (w':=w.putObj l (.loop (bI r stop))) (by simp) rfl rfl rfl rfl fun _ _=>rfl).1
 obtain⟨g1,g2,g3,g4,g5,_⟩:=hs
 obtain⟨c1,hp4,hren,hc⟩:=aBa (σ:=⟨[],(m,⟨cv+1, .ab (aU l (bI r stop))⟩)::τ.rs,0⟩) (τ:=⟨[],L1,0⟩) hp3 g1 g2 g5 g4
 refine⟨c1,hp4,fun i hi=>?_⟩
 have hmem:=vH g3 i hi
 obtain⟨_,q2,q3⟩:=hpin i (by show 1≤(X.rs0 i).cv;rw [hX];exact hi)
 have q:=hc _ hmem
 simp only at q
 refine⟨(lL g5 _ hmem).1,?_,?_⟩
 ·rw [q];exact q2
 ·rw [q];exact q3
theorem aFn {E:Env} {l m n cv:Nat} {rec:Loop} (stop:Bool) {args:List Sv} {L0 L1:List (Nat×Rs)} {tm0:List (Nat×Sv)} {H:(Nat→Cn)→Prop} (nx:Nat)
  (hst:rec.state= .ready) (hm:rsL L0 m=⟨cv, .ab (aU l rec)⟩) (hcv:1≤cv) (hn:rec.tmps.size=n) (hps:rec.params.toList.length=args.length) (hpn:∀p∈rec.params.toList,p<n)
  (htm:∀(w:World) (S:Nat→Prop) c0,H c0→∀s,(lk tm0 s).ok w S c0 (rsL L0) (rec.tmps.getD s undef)) (hE:∀c,H c→E.hk c (rsL L0))
  (h:∀X:Cx,X.n=n→X.rs0=rsL L0→X.rd=some l→V X E rec.assign ⟨uK rec.params.toList args tm0,L0,nx⟩ (nxt (fun τ=>∃cvt,rsL τ.rs m=⟨cvt, .ab (aU l rec)⟩∧1≤cvt∧
   V X E rec.body ⟨τ.tm,(m,⟨cvt+1, .ab (aU l {rec with state:= .busy})⟩)::τ.rs,τ.nx⟩ (aLD l m rec stop L0 L1)) (fun _ _=>False))):
  tI E.P l args L0 (.v (.bool !stop)) L1 H:=by
 intro w0 U S c0 vs hH hp ha
 have hlen:=ha.length
 have hrec:=(aAA hp hm).2
 refine⟨_,_,_,_,run_yield hrec (by simp at hps⊢;omega),roundIn_of_wpIn (F:=Fence.wide) trivial ?_⟩
 have hk:=hE c0 hH
 have hfold:((rec.params.zip vs.toArray).foldl (fun(tmps:Array Value) (x:Nat×Value)=>match x with|(t,a)=>tmps.setIfInBounds t a) rec.tmps)=(rec.params.toList.zip vs).foldl (fun t (p:Nat×Value)=>t.setIfInBounds p.1 p.2) rec.tmps:=by
  rw [←Array.foldl_toList,Array.toList_zip]
 have hpar:=aD4 (w:=w0) (S:=S) (c:=c0) (rs:=rsL L0) rec.params.toList args vs rec.tmps tm0 ha hps (by rw [hn];exact hpn) (htm w0 S c0 hH)
 rw [←hfold]at hpar
 let X:Cx:=⟨w0,U,S,c0,rsL L0,n,some l,[]⟩
 refine wpIn_mono (h X rfl rfl rfl hk _ w0 ⟨w0,U,[], .refl hp.sub hp.ult,rfl,by show _=n;rw [hpar.1,hn],c0,hp,hpar.2,fun i hi=>⟨hi,rfl,rfl⟩⟩) fun e a1 w1 hh=>?_
 obtain⟨τ,hg,hq⟩:=hh
 cases e with
 |normal=>
  obtain⟨cvt,hmt,hct,hV⟩:=hq
  obtain⟨w1',U1,ds,hr,hd,hsz,c,hp1,ht1,hpin1⟩:=hg
  have hrec1:=(aAA hp1 hmt).2
  refine⟨_,run_beginRound hrec1 hst,?_⟩
  obtain⟨hp2,hx2⟩:=aAB (X:=X.at w1' U1 ds) hp1 hmt hct {rec with state:= .busy}
  refine wpIn_mono (hV hk a1 _ ⟨w1',U1,ds,hr,hd,hsz,c,hp2,fun s=>Sv.ok_ext hx2 _ _ (ht1 s),fun i hi=>⟨Nat.le_trans (hpin1 i hi).1 (hx2.ver i),(hpin1 i hi).2⟩⟩) fun e a2 w2 hh2=>?_
  obtain⟨τ2,hg2,hq2⟩:=hh2
  cases e with
  |normal=>
   obtain⟨rfl,cv2,ML,hm2,hc2,hsub⟩:=hq2
   obtain⟨k1,c1,k2,k3⟩:=aGy (X:=X) (stop:=false) rfl hg2 hm2 hc2 hsub
   exact⟨_,_,run_endRound none k1, .bool true,c1,rfl,k2,rfl,k3⟩
  |ret=>
   obtain⟨rfl,cv2,ML,hm2,hc2,hsub⟩:=hq2
   obtain⟨k1,c1,k2,k3⟩:=aGy (X:=X) (stop:=true) rfl hg2 hm2 hc2 hsub
   exact⟨_,_,run_endRound (some .ret) k1, .bool false,c1,rfl,k2,rfl,k3⟩
  |exit i=>exact hq2.elim
  |goto i=>exact hq2.elim
  |panic i=>exact hq2.elim
  |outgrown=>exact hq2.elim
 |exit i=>exact hq.elim
 |goto i=>exact hq.elim
 |ret=>exact hq.elim
 |panic i=>exact hq.elim
 |outgrown=>exact hq.elim
def yE (ids:List Nat) (B:Nat→Nat×Value):(Nat→Cn)→Prop:=fun c=>∀i∈ids,(c i).blk=(B i).1∧(c i).hdr=(B i).2
def qM (ids:List Nat) (tm:List (Nat×Sv)):List (Nat×Sv)→Prop
 |[]=>True
 |(s,v)::l=>lk tm s=v∧(match v with| .v _=>True| .ptr i _=>i∈ids| .sl i=>i∈ids| .dead=>True|_=>False)∧qM ids tm l
theorem aA1 {ids:List Nat} {tm:List (Nat×Sv)}:∀{l:List (Nat×Sv)},qM ids tm l→∀s,lk l s= .dead∨(lk tm s=lk l s∧(match lk l s with| .v _=>True| .ptr i _=>i∈ids| .sl i=>i∈ids| .dead=>True|_=>False))
 |[],_,s=> .inl rfl
 |(k,v)::l,h,s=>by
  simp only [qM]at h
  simp only [lk]
  split
  ·rename_i e;subst e;exact .inr ⟨h.1,h.2.1⟩
  ·exact aA1 h.2.2 s
theorem aLT {ids:List Nat} {tm tmc:List (Nat×Sv)} (h:qM ids tm tmc) {w:World} {S:Nat→Prop} {c:Nat→Cn} {rs:Nat→Rs} {tmps:Array Value} (ht:∀s,(lk tm s).ok w S c rs (tmps.getD s undef))
  (w':World) (S':Nat→Prop) (c':Nat→Cn) (rs':Nat→Rs) (hc:yE ids (fun i=>((c i).blk,(c i).hdr)) c') (hv:∀i∈ids,1≤(rs' i).cv):∀s,(lk tmc s).ok w' S' c' rs' (tmps.getD s undef):=by
 intro s
 rcases aA1 h s with e|⟨e,k⟩
 ·rw [e];simp [Sv.ok]
 ·have h1:=ht s
  rw [e]at h1
  cases hv':lk tmc s with
  |dead=>simp [Sv.ok]
  |v x=>rw [hv']at h1;simpa [Sv.ok]using h1
  |ptr i o=>
   rw [hv']at h1 k
   simp only [Sv.ok]at h1⊢
   exact⟨hv i k,by rw [(hc i k).1];exact h1.2⟩
  |sl i=>
   rw [hv']at h1 k
   simp only [Sv.ok]at h1⊢
   exact⟨hv i k,by rw [(hc i k).2];exact h1.2⟩
  |bor _ _=>rw [hv']at k;exact k.elim
  |bptr _ _=>rw [hv']at k;exact k.elim
  |bsl _ _=>rw [hv']at k;exact k.elim
  |agg _=>rw [hv']at k;exact k.elim
  |tup _=>rw [hv']at k;exact k.elim
  |fn _ _=>rw [hv']at k;exact k.elim
def rI (ids:List Nat):List (Nat×Nat):=ids.map fun i=>(i,i)
theorem oW {X : Cx} {E : Env} {σ : Ss} {Q : Exit → Ss → Prop} {g : Operand} {ps : Array Tmp} {assign body : Code} {f : FuncId} {caps es : List Sv} {L0 L1 : List (Nat × Rs)} {r : Sv} (stop : Bool) (ids Vl : List Nat) (tmc : List (Nat × Sv))
    (hrd : X.rd = none) (hg : σ.opd g = .fn f caps) (hf : aF E.P f) (hm0 : σ.get σ.nx = ⟨0, .gone⟩) (htm : qM ids σ.tm tmc) (hids : σ.nx ∉ ids) (hx0 : (X.rs0 σ.nx).cv = 0)
    (hs : ∀ (l : Nat) (rec : Loop) (B : Nat → Nat × Value), rec.state = .ready → rec.pending = none → rec.params = ps → rec.assign = assign → rec.body = body → rec.tmps.size = X.n →
      (∀ (w : World) (S : Nat → Prop) c0 rs0, yE ids B c0 → (∀ i ∈ ids, 1 ≤ (rs0 i).cv) → ∀ s, (lk tmc s).ok w S c0 rs0 (rec.tmps.getD s undef)) →
      SpecH E.P f (.v (.func (.yield l) #[] #[]) :: es) ((σ.nx, ⟨1, .ab (aU l rec)⟩) :: L0) r ((σ.nx, ⟨1, .ab (aU l (bI rec stop))⟩) :: L1) (yE ids B))
    (hco : ∀ l rec, CallOk (rsL ((σ.nx, ⟨1, .ab (aU l rec)⟩) :: σ.rs)) ((σ.nx, ⟨1, .ab (aU l rec)⟩) :: L0) (rI (σ.nx :: ids)) Vl)
    (hcv : ∀ i ∈ ids, 1 ≤ (rsL L0 i).cv)
    (hmt : ∀ l rec, Sv.mtL (rI (σ.nx :: ids)) Vl (rsL ((σ.nx, ⟨1, .ab (aU l rec)⟩) :: σ.rs)) (rsL ((σ.nx, ⟨1, .ab (aU l rec)⟩) :: L0)) caps es)
    (hQ : ∀ (l : Nat) (rec : Loop), Q (if stop then .ret else .normal) ⟨σ.tm, (σ.nx, ⟨3, .ab (aU l { bI rec stop with state := .exhausted })⟩) ::
      (dR (aV (rsL ((σ.nx, ⟨1, .ab (aU l rec)⟩) :: σ.rs)) (rsL ((σ.nx, ⟨1, .ab (aU l (bI rec stop))⟩) :: L1)) (rI (σ.nx :: ids)) Vl) (rsL ((σ.nx, ⟨1, .ab (aU l (bI rec stop))⟩) :: L1)) ++
        ((σ.nx, ⟨1, .ab (aU l rec)⟩) :: σ.rs)), σ.nx + 1⟩) :
    V X E (.rangeFunc g ps assign body) σ Q := by
  intro hk a w ⟨w1, U1, ds, hr, hd, hn, c, hp, ht, hpin⟩
  have hpsz : w1.heap.size ≤ w.heap.size := hp.size
  have hult : ∀ b, U1 b → b < w1.heap.size := hp.ult
  refine wpIn_rangeFunc fun fn _ => ?_
  have hopd := dD (X := X.at w1 U1 ds) (rs := rsL σ.rs) (tm := lk σ.tm) (a := a) (w := w) (c := c) ht g
  have hg' : opd (lk σ.tm) g = .fn f caps := hg
  rw [hg'] at hopd
  simp only [Sv.ok] at hopd
  obtain ⟨cvs, hev, hcaps⟩ := hopd
  -- the record and the mark
  let rec0 : Loop := { state := .ready, pending := none, fn := fn, tmps := a.tmps, params := ps, assign := assign, body := body, defers := w.heap.size }
  let wa : World := w.alloc (.deferred (some []))
  let wb : World := wa.alloc (.loop rec0)
  have hsa : wa.heap.size = w.heap.size + 1 := by simp [wa]
  have hsb : wb.heap.size = w.heap.size + 2 := by simp [wb, hsa]
  have hwa : ∀ b, b < w.heap.size → wa.heap[b]? = w.heap[b]? := fun b hb => Go.RowKit.Below.heap_alloc w _ b hb
  have hwb : ∀ b, b < w.heap.size + 1 → wb.heap[b]? = wa.heap[b]? := fun b hb => Go.RowKit.Below.heap_alloc wa _ b (by omega)
  have hmark : wb.heap[w.heap.size]? = some (.deferred (some [])) := by
    rw [hwb _ (by omega)]; exact World.alloc_heap_new w _
  have hrec : wb.heap[w.heap.size + 1]? = some (.loop rec0) := by
    have := World.alloc_heap_new wa (.loop rec0)
    rwa [hsa] at this
  have hold : ∀ b, b < w.heap.size → wb.heap[b]? = w.heap[b]? := fun b hb => (hwb b (by omega)).trans (hwa b hb)
  let l := w.heap.size + 1
  have hgone : ∀ b, ¬ (c σ.nx).fp b := fun b hb => by
    have h1 := hp.res σ.nx
    have h2 : rsL σ.rs σ.nx = ⟨0, .gone⟩ := hm0
    rw [h2] at h1
    exact h1 b hb
  obtain ⟨hp1, hx1⟩ := uH (X := X.at w1 U1 ds) (w' := wb) hp σ.nx hm0 ⟨l, .slice none 0 0, fun b => b = l⟩ (.ab (aU l rec0)) rfl rfl rfl (by omega) (fun b hb => hold b hb)
    (fun b hb => by have hb' : b = l := hb; subst hb'; exact ⟨by show w.heap.size ≤ w.heap.size + 1; omega, by show w.heap.size + 1 < wb.heap.size; omega⟩) rfl (fun _ => ⟨rfl, hrec⟩)
  -- the mark's block may turn no more
  let U2 : Nat → Prop := fun b => U1 b ∨ b = w.heap.size
  have hp2 : Hp wb U2 X.S (upd c σ.nx ⟨l, .slice none 0 0, fun b => b = l⟩) (upd (rsL σ.rs) σ.nx ⟨1, .ab (aU l rec0)⟩) wb := by
    refine ⟨rfl, rfl, rfl, Nat.le_refl _, Agree.refl _ _, fun b hb => .inl (hp1.sub b hb), fun b hb => ?_, hp1.res, hp1.flt, fun i b hb hu => ?_, hp1.dis, hp1.one⟩
    · rcases hb with hb | rfl
      · have := hult b hb; omega
      · omega
    · rcases hu with hu | rfl
      · exact hp1.fu i b hb hu
      · by_cases e : i = σ.nx
        · subst e
          rw [upd_same] at hb
          have hb' : w.heap.size = l := hb
          have : l = w.heap.size + 1 := rfl
          omega
        · rw [aN _ _ e] at hb
          have := hp.flt i _ hb
          omega
  have hr2 : Reb X wb U2 (mkD w.heap.size :: ds) := by
    refine ⟨?_, ?_, ?_, ?_, fun b hb => ?_, fun b hb => .inl (hr.sub b hb), hr.ssub, hr.ult, ?_⟩
    · exact (hp.os).trans hr.os
    · exact (hp.tape).trans hr.tape
    · exact (hp.output).trans hr.output
    · have := hr.size; omega
    · have h1 : U1 b := hr.sub b hb
      have h2 : b < w.heap.size := by have := hult b h1; omega
      rw [hold b h2, hp.unch b h1]
      exact hr.agree b hb
    · obtain ⟨lm, e1, e2, e3⟩ := hr.marks
      refine ⟨w.heap.size :: lm, by rw [e1]; rfl, List.nodup_cons.2 ⟨fun hm => ?_, e2⟩, fun q hq => ?_⟩
      · have := hult _ (e3 _ hm).1; omega
      · rcases List.mem_cons.1 hq with rfl | hq
        · exact ⟨.inr rfl, fun hu => by have := hr.ult _ hu; have := hr.size; omega, hmark⟩
        · obtain ⟨m1, m2, m3⟩ := e3 q hq
          refine ⟨.inl m1, m2, ?_⟩
          have h2 : q < w.heap.size := by have := hult q m1; omega
          rw [hold q h2, hp.unch q m1]; exact m3
  have ht1 : ∀ s, (lk σ.tm s).ok wb X.S (upd c σ.nx ⟨l, .slice none 0 0, fun b => b = l⟩) (upd (rsL σ.rs) σ.nx ⟨1, .ab (aU l rec0)⟩) (a.tmps.getD s undef) := fun s => Sv.ok_ext hx1 _ _ (ht s)
  have hcaps1 := Sv.okL_ext hx1 _ _ hcaps
  -- the call
  have hmt1 := Sv.mtL_ok (rs0 := rsL ((σ.nx, ⟨1, .ab (aU l rec0)⟩) :: L0)) (ML := rI (σ.nx :: ids)) (V := Vl) hp2 _ _ _ (hmt l rec0) hcaps1
  have hfw : ∀ i ∈ ids, fwd (rI (σ.nx :: ids)) i = some i := fun i hi => gR (hco l rec0).n1 (List.mem_map.2 ⟨i, by simp [hi], rfl⟩)
  have hpinc : yE ids (fun i => ((c i).blk, (c i).hdr)) (cnM (upd c σ.nx ⟨l, .slice none 0 0, fun b => b = l⟩) (rI (σ.nx :: ids)) (rsL ((σ.nx, ⟨1, .ab (aU l rec0)⟩) :: L0))) := fun i hi => by
    have hne : i ≠ σ.nx := fun e => hids (e ▸ hi)
    have h1 : 1 ≤ (rsL ((σ.nx, (⟨1, .ab (aU l rec0)⟩ : Rs)) :: L0) i).cv := by rw [eZ, if_neg hne]; exact hcv i hi
    unfold cnM
    rw [if_pos h1, hfw i hi]
    simp only [aN _ _ hne]
    exact ⟨trivial, trivial⟩
  have hspec := hs l rec0 (fun i => ((c i).blk, (c i).hdr)) rfl rfl rfl rfl rfl hn (fun w' S' c' rs' hc' hv' => aLT htm ht w' S' c' rs' hc' hv')
  have hcall := hspec wb _ _ _ (.func (.yield l) #[] #[] :: cvs) hpinc (tR (X := X.at wb U2 (mkD w.heap.size :: ds)) hp2 (hco l rec0)) (by
    simp only [Sv.okL]
    exact ⟨_, _, rfl, by simp [Sv.ok], hmt1⟩)
  refine ⟨l, [mkD w.heap.size], wb, { target := .fn (.func f) cvs.toArray, args := #[.func (.yield l) #[] #[]] }, wb, f, (.func (.yield l) #[] #[] :: cvs).toArray, wb, ?_, ?_, fun _ _ => X.F_fn _, ?_, fun e => (by rw [X.F_depth] at e; cases e), Cx.callsIn (X := X) (Calls.mono hcall fun e w3 hh => ?_)⟩
  · have : X.F.round = none := hrd
    rw [this]
    exact run_enterLoop_outer fn a.tmps ps assign body
  · have hc : ∀ v, a.eval (.const v) = v := fun _ => rfl
    simp [resolve, Deferred.ofValue, hev, rangeCall, hc]
  · simp [invoke, nS hf]
  obtain ⟨v, c1, rfl, hpc, _, hpin1⟩ := hh
  obtain ⟨c2, hp3, hx2, _⟩ := qS (X := X.at wb U2 (mkD w.heap.size :: ds)) hp2 (hco l rec0) c1 hpc hpin1
  have hrs3 : eM (rsL ((σ.nx, (⟨1, .ab (aU l rec0)⟩ : Rs)) :: σ.rs)) (dR (aV (rsL ((σ.nx, (⟨1, .ab (aU l rec0)⟩ : Rs)) :: σ.rs)) (rsL ((σ.nx, ⟨1, .ab (aU l (bI rec0 stop))⟩) :: L1)) (rI (σ.nx :: ids)) Vl) (rsL ((σ.nx, ⟨1, .ab (aU l (bI rec0 stop))⟩) :: L1))) σ.nx = ⟨2, .ab (aU l (bI rec0 stop))⟩ := by
    refine (aBg _ _ (aV (rsL ((σ.nx, ⟨1, .ab (aU l rec0)⟩) :: σ.rs)) (rsL ((σ.nx, ⟨1, .ab (aU l (bI rec0 stop))⟩) :: L1)) (rI (σ.nx :: ids)) Vl) (rI (σ.nx :: ids)) σ.nx).trans ?_
    rw [gB (hco l rec0).n2 (List.mem_map.2 ⟨σ.nx, by simp, rfl⟩)]
    have hmem : σ.nx ∈ (rI (σ.nx :: ids)).map (·.2) := List.mem_map.2 ⟨(σ.nx, σ.nx), List.mem_map.2 ⟨σ.nx, by simp, rfl⟩, rfl⟩
    simp only [aV, if_pos hmem, aLF, Rk.ren]
  obtain ⟨hp4, hx3⟩ := aAB (X := X.at wb U2 (mkD w.heap.size :: ds)) hp3 hrs3 (by decide) { bI rec0 stop with state := .exhausted }
  have hrec3 := (aAA hp3 hrs3).2
  have hbusy : (bI rec0 stop).state ≠ .busy := by cases stop <;> simp [bI]
  refine ⟨_, _, run_endLoop hrec3 hbusy, ?_⟩
  have hgam : aGQ X (lk σ.tm) (rsL ((σ.nx, ⟨3, .ab (aU l { bI rec0 stop with state := .exhausted })⟩) ::
      (dR (aV (rsL ((σ.nx, ⟨1, .ab (aU l rec0)⟩) :: σ.rs)) (rsL ((σ.nx, ⟨1, .ab (aU l (bI rec0 stop))⟩) :: L1)) (rI (σ.nx :: ids)) Vl) (rsL ((σ.nx, ⟨1, .ab (aU l (bI rec0 stop))⟩) :: L1)) ++
        ((σ.nx, ⟨1, .ab (aU l rec0)⟩) :: σ.rs)))) { a with defers := [mkD w.heap.size] ++ a.defers } (w3.putObj l (.loop { bI rec0 stop with state := .exhausted })) := by
    refine ⟨wb, U2, mkD w.heap.size :: ds, hr2, by rw [hd]; rfl, hn, c2, ?_, fun s => ?_, fun i hi => ?_⟩
    · have e := mF (fun _ => (⟨0, .gone⟩ : Rs)) (dR (aV (rsL ((σ.nx, ⟨1, .ab (aU l rec0)⟩) :: σ.rs)) (rsL ((σ.nx, ⟨1, .ab (aU l (bI rec0 stop))⟩) :: L1)) (rI (σ.nx :: ids)) Vl) (rsL ((σ.nx, ⟨1, .ab (aU l (bI rec0 stop))⟩) :: L1))) ((σ.nx, ⟨1, .ab (aU l rec0)⟩) :: σ.rs)
      show Hp wb U2 X.S c2 (upd (eM _ _) _ _) _
      rw [e]
      exact hp4
    · have e := mF (fun _ => (⟨0, .gone⟩ : Rs)) (dR (aV (rsL ((σ.nx, ⟨1, .ab (aU l rec0)⟩) :: σ.rs)) (rsL ((σ.nx, ⟨1, .ab (aU l (bI rec0 stop))⟩) :: L1)) (rI (σ.nx :: ids)) Vl) (rsL ((σ.nx, ⟨1, .ab (aU l (bI rec0 stop))⟩) :: L1))) ((σ.nx, ⟨1, .ab (aU l rec0)⟩) :: σ.rs)
      show Sv.ok _ X.S c2 (upd (eM _ _) _ _) _ _
      rw [e]
      exact Sv.ok_ext hx3 _ _ (Sv.ok_ext hx2 _ _ (ht1 s))
    · obtain ⟨q1, q2, q3⟩ := hpin i hi
      have hne : i ≠ σ.nx := fun e => by subst e; have hi' : 1 ≤ (X.rs0 σ.nx).cv := hi; omega
      have k1 : 1 ≤ (upd (rsL σ.rs) σ.nx ⟨1, .ab (aU l rec0)⟩ i).cv := by rw [aN _ _ hne]; exact q1
      obtain ⟨k2, k3⟩ := hx2.cn i k1
      have e := mF (fun _ => (⟨0, .gone⟩ : Rs)) (dR (aV (rsL ((σ.nx, ⟨1, .ab (aU l rec0)⟩) :: σ.rs)) (rsL ((σ.nx, ⟨1, .ab (aU l (bI rec0 stop))⟩) :: L1)) (rI (σ.nx :: ids)) Vl) (rsL ((σ.nx, ⟨1, .ab (aU l (bI rec0 stop))⟩) :: L1))) ((σ.nx, ⟨1, .ab (aU l rec0)⟩) :: σ.rs)
      refine ⟨?_, ?_, ?_⟩
      · show 1 ≤ (upd (eM _ _) _ _ i).cv
        rw [e]
        exact Nat.le_trans k1 (Nat.le_trans (hx2.ver i) (hx3.ver i))
      · rw [k2, aN _ _ hne]; exact q2
      · rw [k3, aN _ _ hne]; exact q3
  have hq := hQ l rec0
  cases stop with
  | false => exact ⟨_, hgam, hq⟩
  | true => exact wpIn_ret ⟨_, hgam, hq⟩
end Go.Eng
end
section
namespace Go.Eng
open Go
section
variable {X:Cx} {σ:Ss}
theorem Imp.openB (i k:Nat) (cells:List Sv) (d:Dt) (hi:(σ.get i).k= .bx cells k d) (hcv:1≤(σ.get i).cv) (hsl:d.isSl=true) (hf:σ.get σ.nx=⟨0, .gone⟩):
  Imp X σ ⟨σ.tm,(i,⟨(σ.get i).cv+1, .box (cells.set k (.sl σ.nx))⟩)::(σ.nx,⟨1, .arr d⟩)::σ.rs,σ.nx+1⟩:=by
 rintro w1 U1 ds a w ⟨hd,hn,c,hp,ht,hpin⟩
 have hij:i≠σ.nx:=fun e=>by rw [e,hf]at hcv;simp at hcv
 have h1:Rk.ok w X.S c (rsL σ.rs) (c i) (.bx cells k d):=by
  have:=hp.res i
  unfold Ss.get at hi;rw [hi]at this;exact this
 obtain⟨q1,cur,e,F,x,q2,q3,q4,q5,q6⟩:=h1
 have hone:x.oneCell'=true:=qR hsl (OwV.rd _ _ q6)
 have hblk:∃g:Nat,∀a m k,x= .slice (some a) m k→a=⟨g,0,none⟩:=by
  cases d with
  |v y=>cases hsl
  |pt l=>cases hsl
  |ab p=>cases hsl
  |sl sz' df' l=>
   simp only [OwV]at q6
   rcases q6.2 with⟨rfl,_⟩|⟨g,m',cap',cur',e',r1,_⟩
   ·exact⟨0,fun _ _ _ h=>by cases h⟩
   ·exact⟨g,fun a m k h=>by rw [r1]at h;simp at h;exact h.1.symm⟩
 obtain⟨g,hg⟩:=hblk
 obtain⟨c',p1,p2,hp',hext⟩:=rE hp i σ.nx hij hf ((σ.get i).cv+1) (Nat.lt_succ_self _) (.box (cells.set k (.sl σ.nx))) (.arr d) ⟨g,x,F⟩ (fun b hb=>(q4 b hb).1) hone (fun hx'=>by
  refine⟨⟨⟨q1,fun h=>(q4 _ h).2 rfl⟩,cur,e,q2,?_⟩,q6,hg⟩
  have h2:=Sv.okL_ext hx' _ _ q3
  have h3:=Sv.okL.set (k:=k) (s:= .sl σ.nx) (x:=x) h2 (by
   simp only [Sv.ok,aN _ _ (Ne.symm hij),upd_same]
   exact⟨Nat.le_refl _,trivial⟩)
  have h4:cur.toList.set k x=cur.toList:=by
   apply List.ext_getElem?
   intro n
   rw [List.getElem?_set]
   split
   ·rename_i hn'
    subst hn'
    split
    ·exact q5.symm
    ·rename_i hlt
     rw [List.getElem?_eq_none (by omega)]
   ·rfl
  rwa [h4]at h3)
 refine⟨hd,hn,c',hp',fun s=>Sv.ok_ext hext _ _ (ht s),fun l hl=>?_⟩
 obtain⟨r1,r2,r3⟩:=hpin l hl
 obtain⟨r4,r5⟩:=hext.cn l r1
 exact⟨Nat.le_trans r1 (hext.ver l),r4.trans r2,r5.trans r3⟩
theorem Imp.closeB (i j k:Nat) (cells:List Sv) (d:Dt) (hi:(σ.get i).k= .box cells) (hc:cells[k]? =some (.sl j)) (hj:(σ.get j).k= .arr d) (hij:i≠j):
  Imp X σ ⟨σ.tm,(i,⟨(σ.get i).cv+1, .bx (cells.set k .dead) k d⟩)::(j,⟨(σ.get j).cv, .gone⟩)::σ.rs,σ.nx⟩:=by
 rintro w1 U1 ds a w ⟨hd,hn,c,hp,ht,hpin⟩
 have h1:=hp.res i
 have h2:=hp.res j
 unfold Ss.get at hi hj
 rw [hi]at h1
 rw [hj]at h2
 obtain⟨q1,cur,e,q2,q3⟩:=h1
 obtain⟨x,hx1,hx2⟩:=Sv.okL.get q3 hc
 simp only [Sv.ok]at hx2
 have hr:=rW (X:=X.at w1 U1 ds) hp i ⟨(c i).blk,(c i).hdr,fun b=>(c i).fp b∨(c j).fp b⟩ ((σ.get i).cv+1) (.bx (cells.set k .dead) k d) [j] (by simpa using hij) (Nat.lt_succ_self _) (.inr ⟨rfl,rfl⟩) rfl rfl rfl (Nat.le_refl _) (Agree.refl _ _)
  (fun b hb=>hb.elim .inl fun h=> .inr (.inl ⟨j,by simp,h⟩)) (hp.one i) (fun hx=>by
   refine⟨.inl q1,cur,e,(c j).fp,x,q2,?_,fun b hb=>⟨.inr hb,fun h=>hp.dis i j b hij (by rw [h];exact q1) hb⟩,hx1,by rw [hx2.2];exact h2.1⟩
   have h3:=Sv.okL.set (k:=k) (s:= .dead) (x:=x) (Sv.okL_ext hx _ _ q3) (by simp [Sv.ok])
   have h4:cur.toList.set k x=cur.toList:=by
    apply List.ext_getElem?
    intro n
    rw [List.getElem?_set]
    split
    ·rename_i hn'
     subst hn'
     split
     ·exact hx1.symm
     ·rename_i hlt
      rw [List.getElem?_eq_none (by omega)]
    ·rfl
   rwa [h4]at h3)
 obtain⟨hp',hext⟩:=hr
 refine⟨hd,hn,_,hp',fun s=>Sv.ok_ext hext _ _ (ht s),fun l hl=>?_⟩
 obtain⟨r1,r2,r3⟩:=hpin l hl
 obtain⟨r4,r5⟩:=hext.cn l r1
 exact⟨Nat.le_trans r1 (hext.ver l),r4.trans r2,r5.trans r3⟩
theorem Imp.cellX_ (i k k':Nat) (cells:List Sv) (d:Dt) (s t:Sv) (hi:(σ.get i).k= .bx cells k' d) (hcv:1≤(σ.get i).cv) (hc:cells[k]? =some s)
  (hst:∀(w:World) (c:Nat→Cn) (rs:Nat→Rs) (u:Value),(∀i,1≤(X.rs0 i).cv→1≤(rs i).cv∧(c i).hdr=(X.c0 i).hdr)→s.ok w X.S c rs u→t.ok w X.S c rs u):
  Imp X σ ⟨σ.tm,(i,⟨(σ.get i).cv+1, .bx (cells.set k t) k' d⟩)::σ.rs,σ.nx⟩:=by
 rintro w1 U1 ds a w ⟨hd,hn,c,hp,ht,hpin⟩
 have h1:=hp.res i
 unfold Ss.get at hi
 rw [hi]at h1
 obtain⟨q1,cur,e,F,x',q2,q3,q4,q5,q6⟩:=h1
 obtain⟨hp',hext⟩:=gQ (X:=X.at w1 U1 ds) (w':=w) hp i hcv ((σ.get i).cv+1) (Nat.lt_succ_self _) (.bx (cells.set k t) k' d) rfl rfl rfl rfl (Agree.refl _ _) (fun hx=>by
  refine⟨q1,cur,e,F,x',q2,?_,q4,q5,q6⟩
  have h2:=Sv.okL_ext hx _ _ q3
  obtain⟨x,hx1,hx2⟩:=Sv.okL.get h2 hc
  have h3:=Sv.okL.set (k:=k) (s:=t) (x:=x) h2 (hst _ _ _ _ (fun l hl=>by
   obtain⟨r1,r2,r3⟩:=hpin l hl
   exact⟨Nat.le_trans r1 (hx.ver l),r3⟩) hx2)
  have h4:cur.toList.set k x=cur.toList:=by
   apply List.ext_getElem?
   intro n
   rw [List.getElem?_set]
   split
   ·rename_i hn'
    subst hn'
    split
    ·exact hx1.symm
    ·rename_i hlt
     rw [List.getElem?_eq_none (by omega)]
   ·rfl
  rwa [h4]at h3)
 refine⟨hd,hn,c,hp',fun s=>Sv.ok_ext hext _ _ (ht s),fun l hl=>?_⟩
 obtain⟨r1,r2,r3⟩:=hpin l hl
 exact⟨Nat.le_trans r1 (hext.ver l),r2,r3⟩
theorem Imp.cellXT (i k k' j:Nat) (cells:List Sv) (d:Dt) (ds:List Dt) (hi:(σ.get i).k= .bx cells k' d) (hcv:1≤(σ.get i).cv) (hc:cells[k]? =some (.bptr [] ds)) (hj:1≤(X.rs0 j).cv):
  Imp X σ ⟨σ.tm,(i,⟨(σ.get i).cv+1, .bx (cells.set k (.bptr [(j,1)] ds)) k' d⟩)::σ.rs,σ.nx⟩:=
 Imp.cellX_ i k k' cells d _ _ hi hcv hc fun w c rs u h q=>by
  simp only [Sv.ok]at q⊢
  refine⟨fun p hp=>?_,q.2.1,fun _=>PtrTo.mono (fun b hb=>?_) (q.2.2 (dU rs))⟩
  ·simp only [List.mem_singleton]at hp
   subst hp
   exact⟨Nat.le_refl 1,(h j hj).1⟩
  ·rcases hb with hb|⟨p,hp,_⟩
   ·exact .inl hb
   ·simp at hp
theorem Imp.cellXV (i k k' j:Nat) (cells:List Sv) (d:Dt) (hi:(σ.get i).k= .bx cells k' d) (hcv:1≤(σ.get i).cv) (hc:cells[k]? =some (.sl j)) (hj:1≤(X.rs0 j).cv):
  Imp X σ ⟨σ.tm,(i,⟨(σ.get i).cv+1, .bx (cells.set k (.v (X.c0 j).hdr)) k' d⟩)::σ.rs,σ.nx⟩:=
 Imp.cellX_ i k k' cells d _ _ hi hcv hc fun w c rs u h q=>by
  simp only [Sv.ok]at q⊢
  rw [q.2,(h j hj).2]
theorem Imp.cellXS (i k k' j:Nat) (cells:List Sv) (d:Dt) (hi:(σ.get i).k= .bx cells k' d) (hcv:1≤(σ.get i).cv) (hc:cells[k]? =some (.v (X.c0 j).hdr)) (hj:1≤(X.rs0 j).cv):
  Imp X σ ⟨σ.tm,(i,⟨(σ.get i).cv+1, .bx (cells.set k (.sl j)) k' d⟩)::σ.rs,σ.nx⟩:=
 Imp.cellX_ i k k' cells d _ _ hi hcv hc fun w c rs u h q=>by
  simp only [Sv.ok]at q⊢
  exact⟨(h j hj).1,by rw [q,(h j hj).2]⟩
end
theorem aL3 {X:Cx} {E:Env} {c:Code} {σ:Ss} {Q:Exit→Ss→Prop} (i:Nat) (hE:∀c rs,E.hk c rs) (hi:1≤(σ.get i).cv)
  (h:∀Y:Cx,Y.n=X.n→Y.rd=X.rd→Y.rs0=upd X.rs0 i ⟨1, .gone⟩→V Y E c σ Q):V X E c σ Q:=by
 intro hk a w ⟨w1,U1,ds,hr,hd,hn,cn,hp,ht,hpin⟩
 have hV:=h {X with c0:=fun l=>if l=i then cn i else X.c0 l,rs0:=upd X.rs0 i ⟨1, .gone⟩} rfl rfl rfl (hE _ _) a w
  ⟨w1,U1,ds,⟨hr.os,hr.tape,hr.output,hr.size,hr.agree,hr.sub,hr.ssub,hr.ult,hr.marks⟩,hd,hn,cn,hp,ht,fun l hl=>by
   by_cases e:l=i
   ·subst e;simp only [if_pos];exact⟨hi,trivial,trivial⟩
   ·simp only [if_neg e]
    exact hpin l (by have hl':1≤(upd X.rs0 i ⟨1, .gone⟩ l).cv:=hl;rwa [aN _ _ e]at hl')⟩
 refine wpIn_mono hV fun e a' w' ⟨τ,⟨w1',U1',ds',hr',hd',hn',c',hp',ht',hpin'⟩,hq⟩=>⟨τ,⟨w1',U1',ds',⟨hr'.os,hr'.tape,hr'.output,hr'.size,hr'.agree,hr'.sub,hr'.ssub,hr'.ult,hr'.marks⟩,hd',hn',c',hp',ht',fun l hl=>?_⟩,hq⟩
 by_cases e:l=i
 ·subst e
  have k:=hpin' l (by show 1≤(upd X.rs0 l ⟨1, .gone⟩ l).cv;rw [upd_same];exact Nat.le_refl _)
  simp only [if_pos]at k
  obtain⟨r1,r2,r3⟩:=hpin l hl
  exact⟨k.1,k.2.1.trans r2,k.2.2.trans r3⟩
 ·have k:=hpin' l (by show 1≤(upd X.rs0 i ⟨1, .gone⟩ l).cv;rw [aN _ _ e];exact hl)
  simp only [if_neg e]at k
  exact k
/-! ### Calls of a loop's body -/
theorem EvYield.mk {E:Env} {l:Nat} {args es:List Sv} {σ:Ss} {K:Sv→List (Nat×Rs)→Prop} {L0 L1:List (Nat×Rs)} {r:Sv} {H:(Nat→Cn)→Prop} (hs:tI E.P l es L0 r L1 H) (ML:List (Nat×Nat)) (V:List Nat)
  (h1:sK (rsL σ.rs) (bZ (rsL σ.rs) 3 (args.flatMap Sv.ids)) L0 ML V) (h2:Sv.mtL ML V (rsL σ.rs) (rsL L0) args es)
  (hH:∀(X:Cx) (c:Nat→Cn),E.hk X.c0 X.rs0→(∀i,1≤(X.rs0 i).cv→(c i).blk=(X.c0 i).blk∧(c i).hdr=(X.c0 i).hdr)→H (cnM c ML (rsL L0)))
  (h3:K (r.ren (aV (rsL σ.rs) (rsL L1) ML V)) (dR (aV (rsL σ.rs) (rsL L1) ML V) (rsL L1))):EvYield E l args σ K:=by
 obtain⟨a1,a2,a3,a4,a5⟩:=h1
 exact⟨es,L0,r,L1,ML,V,H,fun i hi=>(kG a4 i hi).2.2,hs,
  ⟨a1,a2,fun i hi=>(kG a4 i hi).1,fun i hi=>(kG a4 i hi).2.1,fun k=>(nT a3 k).1,fun k=>(nT a3 k).2,yW a5⟩,h2,hH,h3⟩
def aNK (ids:List Nat) (B:Nat→Nat×Value) (c:Nat→Cn) (rs:Nat→Rs):Prop:=yE ids B c∧∀i∈ids,1≤(rs i).cv
theorem wE {ids:List Nat} {B:Nat→Nat×Value} {ML:List (Nat×Nat)} {L0:List (Nat×Rs)} (hcv:∀i∈ids,1≤(rsL L0 i).cv) (hfw:∀i∈ids,fwd ML i=some i) (X:Cx) (c:Nat→Cn)
  (hk:aNK ids B X.c0 X.rs0) (hp:∀i,1≤(X.rs0 i).cv→(c i).blk=(X.c0 i).blk∧(c i).hdr=(X.c0 i).hdr):yE ids B (cnM c ML (rsL L0)):=fun i hi=>by
 have h1:=hp i (hk.2 i hi)
 have h2:=hk.1 i hi
 unfold cnM
 rw [if_pos (hcv i hi),hfw i hi]
 exact⟨h1.1.trans h2.1,h1.2.trans h2.2⟩
theorem SpecH.pin {P:Program} {f:FuncId} {args:List Sv} {L0:List (Nat×Rs)} {r:Sv} {L1:List (Nat×Rs)} {ids:List Nat} {B:Nat→Nat×Value} (h:SpecH P f args L0 r L1 (fun c=>aNK ids B c (rsL L0))) (hcv:∀i∈ids,1≤(rsL L0 i).cv):SpecH P f args L0 r L1 (yE ids B):=
 fun w0 U S c0 vs hH hp ha=>h w0 U S c0 vs ⟨hH,hcv⟩ hp ha
end Go.Eng
end
section
namespace Go.Eng
open Go Go.Maps Go.RowKit Go.WideMaps
structure MapT (P:Program) (t k e:TypeId):Prop where
 und:P.underlying t=some (.map k e)
 key:P.underlying k=some .string
 el:P.underlying e=some (.int .i64)
 z:∀w,(zeroValue e).run P w= .ok (.int .i64 0) w
def aQn (P:Program) (k e:TypeId) (n:Nat) (D:DataW Unit):Ab:=
 ⟨fun w v F=>∃b,v= .map (some b)∧F b∧w.ownsMap P k (plainElem P e) b n D,by
  rintro w w' v F ag ⟨b,h1,h2,es,clock,h3,h4⟩
  exact⟨b,h1,h2,es,clock,(ag b h2).trans h3,h4⟩⟩
def mapD (P:Program) (k e:TypeId) (n:Nat) (D:DataW Unit):Dt:= .ab (aQn P k e n D)
theorem aAn {P:Program} {k e:TypeId} {n:Nat} {D:DataW Unit} {w:World} {F:Nat→Prop} {u:Value} (h:OwV w F (mapD P k e n D) u):∃b,u= .map (some b)∧F b∧w.ownsMap P k (plainElem P e) b n D:=by
 simp only [mapD,OwV]at h
 obtain⟨_,F',h1,b,h2,h3,h4⟩:=h
 exact⟨b,h2,h1 b h3,h4⟩
theorem aHn {P:Program} {k e:TypeId} {n:Nat} {D:DataW Unit} {w:World} {F:Nat→Prop} {u:Value} (h:RdV w F (mapD P k e n D) u):∃b,u= .map (some b)∧F b∧w.ownsMap P k (plainElem P e) b n D:=by
 simp only [mapD,RdV]at h
 obtain⟨_,F',h1,b,h2,h3,h4⟩:=h
 exact⟨b,h2,h1 b h3,h4⟩
theorem aGk {P:Program} {k e:TypeId} {n:Nat} {D:DataW Unit} {w:World} {F:Nat→Prop} {b:Nat} (hb:F b) (h:w.ownsMap P k (plainElem P e) b n D):OwV w F (mapD P k e n D) (.map (some b)):=by
 simp only [mapD,OwV]
 exact⟨rfl,F,fun _ h=>h,b,rfl,hb,h⟩
section
variable {E:Env} {d:Option Nat} {σ:Ss} {K:Ss→Prop}
theorem aCQ {t k e:TypeId} (hf:σ.get σ.nx=⟨0, .gone⟩) (hK:K (σ.ap d (.sl σ.nx) [(σ.nx,⟨1, .arr (mapD E.P k e 0 (.map []))⟩)] (σ.nx+1))):dI E d (.makeMap t none) σ K:=by
 refine⟨[σ.nx],_,[(σ.nx,_)],_,fun X o _ hd ho hdn tm rs h1 h2=>?_,hK,fun i hi=> .inr hi⟩
 have hu:rs σ.nx=⟨0, .gone⟩:=(h2 _ (by simp)).trans hf
 refine SStep0.inn ?_
 rintro a w K Q ⟨hdf,hn,c,hp,ht,hpin⟩ hK
 have hag:Agree (fun b=>b<w.heap.size) w (w.alloc (.map #[] 0)):=fun b hb=>Go.RowKit.Below.heap_alloc w _ b hb
 obtain⟨hp',hx⟩:=uH (X:=X) (w':=w.alloc (.map #[] 0)) hp σ.nx hu ⟨w.heap.size, .map (some w.heap.size),fun b=>b=w.heap.size⟩ (.arr (mapD E.P k e 0 (.map []))) rfl rfl rfl (by simp) hag
  (fun b hb=>by have hb':b=w.heap.size:=hb;subst hb';simp) rfl (fun _=>⟨aGk rfl (World.ownsMap_made w E.P k (plainElem E.P e)),fun _ _ _ h=>by cases h⟩)
 unfold Oper.wp
 have hrun:(execOp a.eval o).run E.P w= .ok (.value (.map (some w.heap.size))) (w.alloc (.map #[] 0)):=by
  simp [execOp,ho,run_makeMap]
 rw [hrun]
 refine hK _ _ (cV hdf hn ht hpin hx hp' (by rw [hd];exact hdn) ?_)
 simp [Sv.ok,upd_same]
theorem aAj {t k e:TypeId} {m x v:Operand} {i n cv:Nat} {D:DataW Unit} {s:ByteArray} {z:Int} (hT:MapT E.P t k e) (hd0:d=none) (hm:σ.opd m= .sl i) (hi:σ.get i=⟨cv, .arr (mapD E.P k e n D)⟩)
  (hx:σ.opd x= .v (.string s)) (hs:s.size≤maxLen) (hv:σ.opd v=iv z) (hz:inR z) (hn:n<maxLen)
  (hK:K (σ.ap d .dead [(i,⟨cv+1, .arr (mapD E.P k e (n+1) (D.put (.string s.data.toList) (.lit (.int .i64 z))))⟩)] σ.nx)):dI E d (.mapUpdate t m x v) σ K:=by
 refine⟨[i],_,_,_,fun X o _ hd ho hdn tm rs h1 h2=>?_,hK,fun j hj=> .inr hj⟩
 have hr:rs i=⟨cv, .arr (mapD E.P k e n D)⟩:=(h2 i (by simp)).trans hi
 have em:opd tm m=σ.opd m:=h1 m (by rw [ho];simp [Op.operands])
 have ex:opd tm x=σ.opd x:=h1 x (by rw [ho];simp [Op.operands])
 have ev:opd tm v=σ.opd v:=h1 v (by rw [ho];simp [Op.operands])
 refine SStep0.inn ?_
 rintro a w K Q ⟨hdf,hnn,c,hp,ht,hpin⟩ hK
 have hm1:=dD ht m
 have hx1:=dD ht x
 have hv1:=dD ht v
 rw [em,hm]at hm1
 rw [ex,hx]at hx1
 rw [ev,hv]at hv1
 simp only [Sv.ok]at hm1 hx1 hv1
 have hres:=hp.res i
 rw [hr]at hres
 obtain⟨b,hb1,hb2,hown⟩:=aAn hres.1
 have hwf:(Lit.int .i64 z).wf=true:=by
  have:=hz;unfold inR at this
  simp [Lit.wf,IntKind.min,IntKind.max,IntKind.signed,IntKind.bits];omega
 obtain⟨w',hrun,hown',hg⟩:=hown.update (t:=t) (string_keyed hT.key) hT.und hn (keyOf_string_mk hT.key hs) (plainElem_int hT.el hwf)
 have hc1:1≤(rs i).cv:=hm1.1
 have hsz:w'.heap.size=w.heap.size:=by
  obtain⟨es,clock,g1,g2,g3,_⟩:=hown
  obtain⟨es',clock',hrun3,_⟩:=Maps.fit_store (R':=plainElem (H:=Unit) E.P e) (string_keyed hT.key) hT.und g1 g2 (Nat.lt_of_le_of_lt g3 hn) (fun _ _ _ _ h=>h) (keyOf_string_mk hT.key hs) (plainElem_int hT.el hwf)
  rw [hrun3]at hrun
  injection hrun with _ e
  rw [←e]
  simp [Go.ChangeMaps.setBlock]
 have hag:Agree (fun b=>¬(c i).fp b) w w':=fun j hj=>by
  by_cases hlt:j<w.heap.size
  ·exact hg.block j hlt (fun h=>hj (by injection h with h;rw [h];exact hb2))
  ·rw [Array.getElem?_eq_none (by omega),Array.getElem?_eq_none (by omega)]
 obtain⟨hp',hx'⟩:=gQ (X:=X) (w':=w') hp i hc1 (cv+1) (by rw [hr];exact Nat.lt_succ_self _) (.arr (mapD E.P k e (n+1) (D.put (.string s.data.toList) (.lit (.int .i64 z))))) hg.os hg.tape hg.output hsz hag (fun _=>⟨by rw [hb1];exact aGk hb2 hown',fun _ _ _ h=>by rw [hb1]at h;cases h⟩)
 unfold Oper.wp
 have hrun2:(execOp a.eval o).run E.P w= .ok .skip w':=by
  simp [execOp,ho,hm1.2,hb1,hx1,hv1,hrun]
 rw [hrun2]
 exact hK _ _ (cV hdf hnn ht hpin hx' hp' (by rw [hd];exact hdn) (by simp [Sv.ok]))
theorem aDS {t k e:TypeId} {m x:Operand} {i n cv:Nat} {D:DataW Unit} {s:ByteArray} {z:Int} (hT:MapT E.P t k e) (hm:σ.opd m= .sl i) (hi:σ.get i=⟨cv, .arr (mapD E.P k e n D)⟩)
  (hx:σ.opd x= .v (.string s)) (hs:s.size≤maxLen) (hz:D.atKey (.string s.data.toList) (.lit (.int .i64 0))= .lit (.int .i64 z))
  (hK:K (σ.ap d (iv z) [] σ.nx)):dI E d (.lookup t m x false) σ K:=by
 refine⟨[i],_,_,_,fun X o _ hd ho hdn tm rs h1 h2=>?_,hK,fun j hj=> .inl ?_⟩
 ·have hr:rs i=⟨cv, .arr (mapD E.P k e n D)⟩:=(h2 i (by simp)).trans hi
  have em:opd tm m=σ.opd m:=h1 m (by rw [ho];simp [Op.operands])
  have ex:opd tm x=σ.opd x:=h1 x (by rw [ho];simp [Op.operands])
  refine cJ (E:=E) (by rw [hd];exact hdn) _ fun ac w c hp h=>?_
  have hm1:=h m
  have hx1:=h x
  rw [em,hm]at hm1
  rw [ex,hx]at hx1
  simp only [Sv.ok]at hm1 hx1
  have hres:=hp.res i
  rw [hr]at hres
  obtain⟨b,hb1,hb2,hown⟩:=aAn hres.1
  obtain⟨c',hrun,hat,_⟩:=hown.lookup_int (t:=t) (string_keyed hT.key) hT.und hT.el (hT.z w) (keyOf_string_mk hT.key hs)
  rw [hz]at hat
  have hc:z=c':=by injection hat with h;injection h
  subst hc
  simp [execOp,ho,hm1.2,hb1,hx1,hrun]
 ·simp only [List.mem_singleton]at hj
  subst hj
  exact jI (by simp [Op.operands,hm,Sv.ids])
theorem aBm {t k e:TypeId} {m x:Operand} {n:Nat} {ts:List (Nat×Nat)} {D:DataW Unit} {s:ByteArray} {z:Int} (hT:MapT E.P t k e) (hm:σ.opd m= .bor ts (mapD E.P k e n D)) (htg:oN σ ts)
  (hx:σ.opd x= .v (.string s)) (hs:s.size≤maxLen) (hz:D.atKey (.string s.data.toList) (.lit (.int .i64 0))= .lit (.int .i64 z))
  (hK:K (σ.ap d (iv z) [] σ.nx)):dI E d (.lookup t m x false) σ K:=by
 refine⟨ts.map (·.1),_,_,_,fun X o _ hd ho hdn tm rs h1 h2=>?_,hK,fun j hj=> .inl ?_⟩
 ·have htv:iX rs ts:=fun p hp=>by
   have h3:=jO htg p hp
   rw [h2 p.1 (List.mem_map.2 ⟨p,hp,rfl⟩)]
   exact h3
  have em:opd tm m=σ.opd m:=h1 m (by rw [ho];simp [Op.operands])
  have ex:opd tm x=σ.opd x:=h1 x (by rw [ho];simp [Op.operands])
  refine cJ (E:=E) (by rw [hd];exact hdn) _ fun ac w c hp h=>?_
  have hm1:=h m
  have hx1:=h x
  rw [em,hm]at hm1
  rw [ex,hx]at hx1
  simp only [Sv.ok]at hm1 hx1
  obtain⟨b,hb1,hb2,hown⟩:=aHn (hm1.2.2 htv)
  obtain⟨c',hrun,hat,_⟩:=hown.lookup_int (t:=t) (string_keyed hT.key) hT.und hT.el (hT.z w) (keyOf_string_mk hT.key hs)
  rw [hz]at hat
  have hc:z=c':=by injection hat with h;injection h
  subst hc
  simp [execOp,ho,hb1,hx1,hrun]
 ·exact jI (by simp only [Op.operands,List.flatMap_cons,List.toList_toArray];rw [hm];exact List.mem_append_left _ (by simpa [Sv.ids]using hj))
@[go_sem] theorem aO5 {P:Program} {k e:TypeId} {n:Nat} {D:DataW Unit} (ts:List (Nat×Nat)):Sv.ofDt ts (mapD P k e n D)= .bor ts (mapD P k e n D):=rfl
theorem nA {src dst:TypeId} {k:IntKind} {q:IntKind} {x:Operand} {n:Int} (hs:(E.P.underlying src).isSome=true) (ht:E.P.underlying dst=some (.int k)) (hx:σ.opd x= .v (.int q n)) (hK:K (σ.ap d (.v (.int k (k.wrap n))) [] σ.nx)):dI E d (.convert src dst x) σ K:=by
 refine⟨[],_,[],_,fun X o _ hd ho hdn tm rs h1 h2=>?_,hK,fun i hi=>by simp at hi⟩
 refine cJ (E:=E) (by rw [hd];exact hdn) _ fun ac w c hp h=>?_
 have hx1:=h x
 have ex:opd tm x=σ.opd x:=h1 x (by rw [ho];simp [Op.operands])
 rw [ex,hx]at hx1
 simp only [Sv.ok]at hx1
 obtain⟨u,hu⟩:=Option.isSome_iff_exists.mp hs
 simp [execOp,ho,hx1,convert,run_underlying hu,run_underlying ht,Conv.intToInt]
theorem wrap_u8 {n:Int} (h0:0≤n) (h1:n<256):IntKind.wrap .u8 n=n:=by
 unfold IntKind.wrap
 simp [IntKind.bits,IntKind.signed]
 omega
theorem aK6 {src dst:TypeId} {q:IntKind} {x:Operand} {n:Int} (hs:(E.P.underlying src).isSome=true) (ht:E.P.underlying dst=some (.int .u8)) (hx:σ.opd x= .v (.int q n)) (h0:0≤n) (h1:n<256) (hK:K (σ.ap d (.v (.int .u8 n)) [] σ.nx)):dI E d (.convert src dst x) σ K:=
 nA hs ht hx (by rw [wrap_u8 h0 h1];exact hK)
def bys (l:List Int):Dt:= .sl 1 (.v (.int .u8 0)) (l.map fun n=> .v (.int .u8 n))
theorem aIK {src dst e:TypeId} {x:Operand} {i cv:Nat} {l:List Int} (hs:E.P.underlying src=some (.slice e)) (he:E.P.underlying e=some (.int .u8)) (ht:E.P.underlying dst=some .string) (hx:σ.opd x= .sl i) (hi:σ.get i=⟨cv, .arr (bys l)⟩)
  (hK:K (σ.ap d (.v (.string (strOfNums l))) [] σ.nx)):dI E d (.convert src dst x) σ K:=by
 refine⟨[i],_,[],_,fun X o _ hd ho hdn tm rs h1 h2=>?_,hK,fun j hj=> .inl ?_⟩
 ·have hr:rs i=⟨cv, .arr (bys l)⟩:=(h2 i (by simp)).trans hi
  refine cJ (E:=E) (by rw [hd];exact hdn) _ fun ac w c hp h=>?_
  have hx1:=h x
  have ex:opd tm x=σ.opd x:=h1 x (by rw [ho];simp [Op.operands])
  rw [ex,hx]at hx1
  simp only [Sv.ok]at hx1
  have hres:=hp.res i
  rw [hr]at hres
  obtain⟨h3,h4⟩:=hres
  simp only [bys,OwV]at h3
  obtain⟨_,h3⟩:=h3
  rcases h3 with⟨e1,e2⟩|⟨g,n,cap,cur,e',e1,e2,e3,e4,e5,e6,e7,e8⟩
  ·have:l=[]:=by simpa using e2
   subst this
   simp only [execOp,ho,hx1.2,e1,Sem.run_bind]
   rw [run_convert_bytes_nil w src e hs he 0 0 dst ht]
   rfl
  ·have hln:n=l.length:=by simpa using e2
   have hcur:cur.toList.take l.length=l.map (Value.int .u8):=by
    have hfl:(l.map fun n=>Dt.v (.int .u8 n)).all Dt.isV=true:=by simp [Dt.isV]
    have:=(OwL.flat hfl).1 e8
    simpa [Dt.val,Function.comp_def]using this
   simp only [execOp,ho,hx1.2,e1,Sem.run_bind]
   rw [run_convert_bytes_arg w src e hs he g 0 n cap l hln.symm (fun j hj=>by
    have hjl:j<l.length:=by omega
    have h5:(cur.toList.take l.length)[j]? =some (.int .u8 (l.getD j 0)):=by
     rw [hcur];simp [hjl]
    rw [List.getElem?_take,if_pos hjl]at h5
    simp [World.cell?,e6]
    simpa using h5) dst ht]
   rfl
 ·simp only [List.mem_singleton]at hj
  subst hj
  exact jI (by simp [Op.operands,hx,Sv.ids])
end
end Go.Eng
end
section
namespace Go.Eng
open Go
structure LC where
 l:List Sv
 ok:fN l=true
theorem nX {s:Sv} (h:s.pure=true):(∃x,s= .v x)∨(∃d,s= .bor [] d)∨∃ds,s= .bptr [] ds:=by
 cases s with
 |v x=>exact .inl ⟨x,rfl⟩
 |bor ts d=>
  cases ts with
  |nil=>exact .inr (.inl ⟨d,rfl⟩)
  |cons _ _=>cases h
 |bptr ts d=>
  cases ts with
  |nil=>exact .inr (.inr ⟨d,rfl⟩)
  |cons _ _=>cases h
 |_=>cases h
theorem aB1:∀{l:List Sv},fN l=true→Sv.idsL l=[]
 |[],_=>by simp [Sv.idsL]
 |s::l,h=>by
  simp only [fN,Bool.and_eq_true]at h
  rcases nX h.1 with⟨x,rfl⟩|⟨d,rfl⟩|⟨d,rfl⟩<;>simp [Sv.idsL,Sv.ids,aB1 h.2]
theorem aCj {R:Rn} (hR:R.vt=[]):∀{l:List Sv},fN l=true→Sv.renL R l=l
 |[],_=>by simp [Sv.renL]
 |s::l,h=>by
  simp only [fN,Bool.and_eq_true]at h
  rcases nX h.1 with⟨x,rfl⟩|⟨d,rfl⟩|⟨d,rfl⟩<;>simp [Sv.renL,Sv.ren,yG,hR,aCj hR h.2]
theorem aEi {rs:Nat→Rs}:∀{l:List Sv},fN l=true→rvL rs l=l
 |[],_=>by simp [rvL]
 |s::l,h=>by
  simp only [fN,Bool.and_eq_true]at h
  rcases nX h.1 with⟨x,rfl⟩|⟨d,rfl⟩|⟨d,rfl⟩<;>simp [rvL,rvS,aEi h.2]
theorem aB9:∀{l:List Sv},fN l=true→yD l l=[]
 |[],_=>by simp [yD]
 |s::l,h=>by
  simp only [fN,Bool.and_eq_true]at h
  rcases nX h.1 with⟨x,rfl⟩|⟨d,rfl⟩|⟨d,rfl⟩<;>simp [yD,pSv,aB9 h.2]
@[go_sem] theorem aSE (c:LC):Sv.idsL c.l=[]:=aB1 c.ok
@[go_sem] theorem aS8 (c:LC) (ML:List (Nat×Nat)) (f g:Nat→Nat):Sv.renL ⟨ML,f,g,[]⟩ c.l=c.l:=aCj rfl c.ok
@[go_sem] theorem aVf (c:LC) (rs:Nat→Rs):rvL rs c.l=c.l:=aEi c.ok
@[go_sem] theorem aSS (c:LC):yD c.l c.l=[]:=aB9 c.ok
@[go_sem] theorem aU6 (c:LC) (ML:List (Nat×Nat)) (V:List Nat) (rs rs0:Nat→Rs):Sv.mtL ML V rs rs0 c.l c.l↔True:=⟨fun _=>trivial,fun _=>pO c.ok⟩
theorem EvCall.lc {E:Env} {f:FuncId} {c:LC} {args:List Sv} {σ:Ss} {K:Sv→List (Nat×Rs)→Prop} {x:Value} (hp:fN args=true) (hs:Spec E.P f (args++c.l) [] (.v x) []) (hc:aF E.P f) (hK:K (.v x) []):EvCall E (.fn f c.l) args σ K:=by
 refine EvCall.mk hs hc [] [] ?_ ?_ ?_
 ·simp [sK,coL,coV,coM]
 ·have:fN (args++c.l)=true:=by
   have h2:=c.ok
   clear hs
   revert h2 hp
   generalize c.l=m
   induction args with
   |nil=>intro _ h;exact h
   |cons s l ih=>
    intro h k
    simp only [fN,Bool.and_eq_true]at h
    simp only [List.cons_append,fN,Bool.and_eq_true]
    exact⟨h.1,ih h.2 k⟩
  exact pO this
 ·simpa [Sv.ren,dR,aV]using hK
theorem aFR {X:Cx} {E:Env} {c:Code} {σ:Ss} {Q:Exit→Ss→Prop} (h:V X E c σ (fun e τ=>∃υ,Imp X τ υ∧Q e υ)):V X E c σ Q:=fun hk a w hg=>
 wpIn_mono (h hk a w hg) fun e a' w' ⟨τ,⟨w1,U1,ds,hr,hg'⟩,υ,hi,hq⟩=>⟨υ,⟨w1,U1,ds,hr,hi w1 U1 ds a' w' hg'⟩,hq⟩
theorem aJP {l m:Nat} {r:Loop} {L0 L1:List (Nat×Rs)} {τ:Ss} (cv:Nat) (hm:rsL τ.rs m=⟨cv, .ab (aU l {r with state:= .busy})⟩) (hcv:1≤cv)
  (h:iW L0 (nI L0 ⟨[],(m,⟨cv+1, .ab (aU l (bI r false))⟩)::τ.rs,0⟩ ⟨[],L1,0⟩) ⟨[],(m,⟨cv+1, .ab (aU l (bI r false))⟩)::τ.rs,0⟩ ⟨[],L1,0⟩):aLD l m r false L0 L1 .normal τ:=⟨rfl,cv,_,hm,hcv,h⟩
theorem aQS {l m:Nat} {r:Loop} {L0 L1:List (Nat×Rs)} {τ:Ss} (cv:Nat) (hm:rsL τ.rs m=⟨cv, .ab (aU l {r with state:= .busy})⟩) (hcv:1≤cv)
  (h:iW L0 (nI L0 ⟨[],(m,⟨cv+1, .ab (aU l (bI r true))⟩)::τ.rs,0⟩ ⟨[],L1,0⟩) ⟨[],(m,⟨cv+1, .ab (aU l (bI r true))⟩)::τ.rs,0⟩ ⟨[],L1,0⟩):aLD l m r true L0 L1 .ret τ:=⟨rfl,cv,_,hm,hcv,h⟩
theorem mB {E:Env} {l m n cv:Nat} {rec:Loop} (stop:Bool) {args:List Sv} {L0 L1:List (Nat×Rs)} {tm0:List (Nat×Sv)} {H:(Nat→Cn)→Prop} (nx:Nat) {ps:Array Tmp} {A B:Code}
  (hpa:rec.params=ps) (hA:rec.assign=A) (hB:rec.body=B)
  (hst:rec.state= .ready) (hm:rsL L0 m=⟨cv, .ab (aU l rec)⟩) (hcv:1≤cv) (hn:rec.tmps.size=n) (hps:ps.toList.length=args.length) (hpn:∀p∈ps.toList,p<n)
  (htm:∀(w:World) (S:Nat→Prop) c0,H c0→∀s,(lk tm0 s).ok w S c0 (rsL L0) (rec.tmps.getD s undef)) (hE:∀c,H c→E.hk c (rsL L0))
  (h:∀(X:Cx) (bz:Loop),bz={rec with state:= .busy}→X.n=n→X.rs0=rsL L0→X.rd=some l→V X E A ⟨uK ps.toList args tm0,L0,nx⟩ (nxt (fun τ=>∃cvt,rsL τ.rs m=⟨cvt, .ab (aU l rec)⟩∧1≤cvt∧
   V X E B ⟨τ.tm,(m,⟨cvt+1, .ab (aU l bz)⟩)::τ.rs,τ.nx⟩ (aLD l m rec stop L0 L1)) (fun _ _=>False))):
  tI E.P l args L0 (.v (.bool !stop)) L1 H:=by
 subst hpa hA hB
 exact aFn stop nx hst hm hcv hn hps hpn htm hE fun X h1 h2 h3=>h X _ rfl h1 h2 h3
theorem Imp.adoptI {X:Cx} {tm:List (Nat×Sv)} {rs:List (Nat×Rs)} {nx:Nat} (i k cv:Nat) (cells:List Sv) (hi:rsL rs i=⟨cv, .box cells⟩) (hk:cells[k]? =some (.v (.slice none 0 0))) (hf:rsL rs nx=⟨0, .gone⟩) (hx:(X.rs0 nx).cv=0):
  Imp X ⟨tm,rs,nx⟩ ⟨tm,(i,⟨cv, .box (cells.set k (.sl nx))⟩)::(nx,⟨1, .arr (ints [])⟩)::rs,nx+1⟩:=by
 have h:=Imp.adoptB (X:=X) (σ:=⟨tm,rs,nx⟩) i k 1 (.v (.int .i64 0)) cells (by decide) (by unfold Ss.get;rw [hi]) hk hf hx
 have e:((⟨tm,rs,nx⟩:Ss).get i).cv=cv:=by unfold Ss.get;rw [hi]
 rw [e]at h
 exact h
/-! ### Nil slices in a result, told as empty lists of one's own -/
def rX (L:List (Nat×Rs)):Prop:=∀p∈L,∃sz df,0<sz∧p.2=⟨1, .arr (.sl sz df [])⟩
theorem zZ:∀{L:List (Nat×Rs)},rX L→∀i,rsL L i=⟨0, .gone⟩∨∃sz df,0<sz∧rsL L i=⟨1, .arr (.sl sz df [])⟩
 |[],_,i=> .inl rfl
 |(j,r)::l,h,i=>by
  rw [eZ]
  split
  ·exact .inr (h (j,r) (by simp))
  ·exact zZ (fun p hp=>h p (by simp [hp])) i
theorem Spec.adopt {P:Program} {f:FuncId} {args:List Sv} {r r':Sv} {L1:List (Nat×Rs)} (h:Spec P f args [] r []) (hL:rX L1)
  (hr:∀(w:World) (S:Nat→Prop) (v:Value) (c:Nat→Cn),r.ok w S c (rsL []) v→r'.ok w S (fun _=>⟨0, .slice none 0 0,fun _=>False⟩) (rsL L1) v):Spec P f args [] r' L1:=by
 intro w0 U S c0 vs hp ha
 refine(h w0 U S c0 vs hp ha).mono fun e w' ⟨v,c1,he,hp1,hv,_⟩=>⟨v,fun _=>⟨0, .slice none 0 0,fun _=>False⟩,he,?_,hr _ _ _ _ hv,fun i hi=>by simp [uR]at hi⟩
 refine⟨hp1.os,hp1.tape,hp1.output,hp1.size,hp1.unch,hp1.sub,hp1.ult,fun i=>?_,fun i b hb=>hb.elim,fun i b hb=>hb.elim,fun i j b _ hb=>hb.elim,fun i=>rfl⟩
 rcases zZ hL i with e|⟨sz,df,h0,e⟩
 ·rw [e];exact fun b hb=>hb
 ·rw [e]
  refine⟨?_,fun _ _ _ hh=>by cases hh⟩
  simp [OwV,h0]
theorem bH {i:Nat} {L:List (Nat×Rs)} (h:rX L):rX ((i,⟨1, .arr (ints [])⟩)::L):=fun p hp=>by
 rcases List.mem_cons.1 hp with rfl|hp
 ·exact⟨_,_,Nat.one_pos,rfl⟩
 ·exact h p hp
theorem jL {i:Nat} {L:List (Nat×Rs)} (h:rX L):rX ((i,⟨1, .arr (aE [])⟩)::L):=fun p hp=>by
 rcases List.mem_cons.1 hp with rfl|hp
 ·exact⟨_,_,Nat.one_pos,rfl⟩
 ·exact h p hp
theorem sJ:rX []:=fun p hp=>by simp at hp
/-! ### A table that is being filled -/
theorem aIN {p:List (List Int)} {m k:Nat} (h:k<p.length):(eU p m).at k=ints (p.getD k []):=by
 simp [eU,Dt.at,Dt.cells,Dt.df,List.getD_eq_getElem?_getD,List.getElem?_append,h]
theorem aHg {p:List (List Int)} {m k:Nat} {r:List Int} (h:k<p.length):(eU p m).put k (ints r)=eU (p.set k r) m:=by
 simp [eU,Dt.put,Dt.cells,Dt.sz,Dt.df,List.set_append,h,List.map_set]
@[go_sem ↓ high] theorem aSm {V:List Nat} {rs:Nat→Rs} (x y:Value):Sv.view0 V rs (.v x) (.v y)↔y=x:=by
 simp [Sv.view0]
@[go_sem high] theorem aMA {V:List Nat} {rs:Nat→Rs}:fC V rs [] []↔True:=aFL
@[go_sem high] theorem aLY {V:List Nat} {rs:Nat→Rs} (s:Sv) (l:List Sv) (d:Dt) (r:List Dt):fC V rs (s::l) (d::r)↔s.view0 V rs d∧fC V rs l r:=aEI s l d r
end Go.Eng
end
section
namespace Go.Eng
open Go
theorem Imp.drop {X:Cx} {σ:Ss} (i:Nat) (hcv:1≤(σ.get i).cv):Imp X σ ⟨σ.tm,(i,⟨(σ.get i).cv+1, .gone⟩)::σ.rs,σ.nx⟩:=by
 rintro w1 U1 ds a w ⟨hd,hn,c,hp,ht,hpin⟩
 have hr:=rW (X:=X.at w1 U1 ds) hp i ⟨(c i).blk,(c i).hdr,fun _=>False⟩ ((σ.get i).cv+1) .gone [] (by simp) (Nat.lt_succ_self _) (.inr ⟨rfl,rfl⟩) rfl rfl rfl (Nat.le_refl _) (Agree.refl _ _)
  (fun b hb=>hb.elim) (hp.one i) (fun hx=>fun b hb=>hb)
 obtain⟨hp',hext⟩:=hr
 refine⟨hd,hn,_,hp',fun s=>Sv.ok_ext hext _ _ (ht s),fun l hl=>?_⟩
 obtain⟨r1,r2,r3⟩:=hpin l hl
 obtain⟨r4,r5⟩:=hext.cn l r1
 exact⟨Nat.le_trans r1 (hext.ver l),r4.trans r2,r5.trans r3⟩
/-! ### Lists of lists of lists of numbers -/
@[go_sem] theorem aMo:Dt.sl 1 (aE []) []=dK []:=rfl
@[go_sem] theorem aMp (q:List (List Int)):Dt.sl 1 (aE []) [aE q]=dK [q]:=rfl
@[go_sem] theorem aK8 (q:List (List Int)):(dK [q]).flat=false:=rfl
@[go_sem] theorem aMq (l:List (List (List Int))):(dK l).ones=true:=by
 simp only [dK,Dt.ones,Dt.cells,List.all_map]
 exact List.all_eq_true.2 fun _ _=>rfl
@[go_sem] theorem aNv (l m:List (List (List Int))):Dt.app 1 (aE []) (dK l) (dK m)=dK (l++m):=by simp [dK,aE,Dt.app,Dt.cells,List.map_append]
end Go.Eng
end
section
namespace Go.Eng
open Go
/-! ### An operation answered by what is known of the frame -/
def HkX (X:Cx) (E:Env) (d:Option Nat) (op:Op) (σ:Ss) (K:Ss→Prop):Prop:=
 ∃foot sv ru nx,(∀w1 U1 ds,Reb X w1 U1 ds→∀o:Oper,o.dst=d→o.op=op→(∀k,d=some k→k<X.n)→zM (X.at w1 U1 ds) E.P o (lk σ.tm) (rsL σ.rs) foot sv ru)∧K (σ.ap d sv ru nx)∧
  ∀i∈foot,i∈bZ (rsL σ.rs) (vU op) (op.operands.toList.flatMap fun x=>(σ.opd x).ids)∨i∈ru.map (·.1)
def aPV (X:Cx) (E:Env) (opsA:List Oper) (o:Oper) (σ:Ss) (K:Ss→Prop):Prop:=evO E opsA o σ K∨((o.guard=none∨∃j want g,o.guard=some (j,want)∧dV opsA j=some g∧lk σ.tm g= .v (.bool want))∧aBn o.op=false∧HkX X E o.dst o.op σ K)
def fQ (X:Cx) (E:Env) (opsA:List Oper):List Oper→Ss→List (List Nat×List Nat)→(Ss→Prop)→Prop
 |[],σ,acc,K=>mX opsA acc.reverse=true∧K σ
 |o::r,σ,acc,K=>aPV X E opsA o σ fun σ'=>fQ X E opsA r σ' ((iC σ o,(σ'.rs.take (σ'.rs.length-σ.rs.length)).map (·.1))::acc) K
section
variable {X:Cx} {E:Env} {w1:World} {U1:Nat→Prop} {ds:List Deferred}
theorem aEZ (hr:Reb X w1 U1 ds) (hk:E.hk X.c0 X.rs0) {opsA:List Oper} {o:Oper} {σ:Ss} {K:Ss→Prop} (hn:∀o'∈opsA,∀k,o'.dst=some k→k<X.n) (ho:∀k,o.dst=some k→k<X.n) (h:aPV X E opsA o σ K):
  (∃foot sv ru nx,zM (X.at w1 U1 ds) E.P o (lk σ.tm) (rsL σ.rs) foot sv ru∧K (σ.ap o.dst sv ru nx)∧(∀i∈foot,i∈iC σ o∨i∈ru.map (·.1))∧(o.guard=none∨∃j want d,o.guard=some (j,want)∧dV opsA j=some d∧d<X.n∧lk σ.tm d= .v (.bool want)))∨
  (K (σ.ap o.dst (.v undef) [] σ.nx)∧∃j want d v,o.guard=some (j,want)∧dV opsA j=some d∧d<X.n∧lk σ.tm d= .v v∧v≠ .bool want):=by
 rcases h with h|⟨hg,hm,foot,sv,ru,nx,h1,h2,h3⟩
 ·exact vY (X:=X.at w1 U1 ds) hk hn ho h
 ·have h3:∀i∈foot,i∈iC σ o∨i∈ru.map (·.1):=by unfold iC;rw [hm,if_neg (by decide)];exact h3
  refine .inl ⟨foot,sv,ru,nx,h1 w1 U1 ds hr o rfl rfl ho,h2,h3,?_⟩
  rcases hg with hg|⟨j,want,g,g1,g2,g3⟩
  ·exact .inl hg
  ·refine .inr ⟨j,want,g,g1,g2,?_,g3⟩
   have hd:=g2
   unfold dV at hd
   cases ho':opsA[j]? with
   |none=>rw [ho']at hd;cases hd
   |some o'=>rw [ho']at hd;exact hn o' (List.mem_of_getElem? ho') g hd
theorem sM (hr:Reb X w1 U1 ds) {opsA:List Oper} {K:Ss→Prop} (hk:E.hk X.c0 X.rs0) (hn:∀o'∈opsA,∀k,o'.dst=some k→k<X.n):∀(l:List Oper) (σ:Ss) (acc:List (List Nat×List Nat)),(∀o∈l,∀k,o.dst=some k→k<X.n)→
  fQ X E opsA l σ acc K→∃en τ,Tx (X.at w1 U1 ds) E opsA l σ en τ∧mX opsA (acc.reverse++FU en)=true∧K τ
 |[],σ,acc,_,h=>⟨[],σ,⟨rfl,rfl⟩,by simpa [FU]using h.1,h.2⟩
 |o::l,σ,acc,hl,h=>by
  simp only [fQ]at h
  have key:∀(sv:Sv) (ru:List (Nat×Rs)) (nx:Nat),((σ.ap o.dst sv ru nx).rs.take ((σ.ap o.dst sv ru nx).rs.length-σ.rs.length)).map (·.1)=ru.map (·.1):=fun sv ru nx=>by
   simp [Ss.ap]
  rcases aEZ hr hk hn (hl o (by simp)) h with⟨foot,sv,ru,nx,h1,h2,h3,h4⟩|⟨h2,h4⟩
  ·obtain⟨en,τ,g1,g2,g3⟩:=sM hr hk hn l _ _ (fun o ho=>hl o (by simp [ho])) h2
   refine⟨⟨sv,ru,iC σ o⟩::en,τ,⟨_,en,nx,rfl, .inl ⟨foot,h1,h3,h4⟩,g1⟩,?_,g3⟩
   rw [key]at g2
   simpa [FU]using g2
  ·obtain⟨en,τ,g1,g2,g3⟩:=sM hr hk hn l _ _ (fun o ho=>hl o (by simp [ho])) h2
   refine⟨⟨.v undef,[],iC σ o⟩::en,τ,⟨_,en,σ.nx,rfl, .inr ⟨rfl,rfl,h4⟩,g1⟩,?_,g3⟩
   rw [key]at g2
   simpa [FU]using g2
theorem aH5 (hr:Reb X w1 U1 ds) {l:List Oper} {id:Nat} {σ:Ss} {K:Ss→Prop} {Q:Exit→Act→World→Prop} (hk:E.hk X.c0 X.rs0) (hm:E.P.follows .mixedOrders=true) (hn:∀o∈l,∀k,o.dst=some k→k<X.n) (h:fQ X E l l σ [] K)
  {a:Act} {w:World} (hg:Gam (X.at w1 U1 ds) (lk σ.tm) (rsL σ.rs) a w) (hQ:∀s a' w',Gam (X.at w1 U1 ds) (lk s.tm) (rsL s.rs) a' w'→K s→Q .normal a' w'):(Code.region id l.toArray true).wpIn X.F 0 E.P Q a w:=by
 obtain⟨en,τ,h1,h2,h3⟩:=sM hr hk hn l σ [] hn h
 refine wpIn_region_any hm ?_
 have hgd:∀j,(Array.replicate l.toArray.size false).getD j false=false:=fun j=>by
  simp only [Array.getD];split<;>simp
 refine aBG (X:=X.at w1 U1 ds) hn h1 (by simpa using h2) (fun a' w' hg'=>hQ τ a' w' hg' h3) _ _ a _ (by simp) ?_ (fun j o _ hd=>by simp only [hgd]at hd;cases hd) ?_
 ·have:∀n D,cnt n D≤n:=by
   intro n D
   induction n with
   |zero=>exact Nat.le_refl _
   |succ n ih=>simp only [cnt];split<;>omega
  simpa using this _ _
 ·have e1:apD (lk σ.tm) (TU l en) 0 (fun j=>(Array.replicate l.toArray.size false).getD j false)=lk σ.tm:=funext fun s=>mQ _ _ _ _ _ fun j _ _ _=>hgd _
  have e2:apD (rsL σ.rs) (RU en) 0 (fun j=>(Array.replicate l.toArray.size false).getD j false)=rsL σ.rs:=funext fun s=>mQ _ _ _ _ _ fun j _ _ _=>hgd _
  rw [e1,e2]
  exact aDO hg
theorem kS {σ:Ss} {Q:Exit→Ss→Prop} {l:List Oper} {id:Nat} (hm:E.P.follows .mixedOrders=true) (hn:l.all (fun o=>o.dst.all (fun k=>decide (k<X.n)))=true) (h:∀K:Ss→Prop,(∀s,Q .normal s→K s)→fQ X E l l σ [] K):V X E (.region id l.toArray true) σ Q:=fun hk a w hg=>by
 obtain⟨w1,U1,ds,hr,hg⟩:=hg
 have hn':∀o'∈l,∀k,o'.dst=some k→k<X.n:=fun o ho k hk=>by
  have:=List.all_eq_true.1 hn o ho
  rw [hk]at this
  simpa using this
 exact aH5 hr hk hm hn' (h _ fun _ h=>h) hg fun s a' w' hg' hK=>⟨s,⟨w1,U1,ds,hr,hg'⟩,hK⟩
variable {A r:List Oper} {σ:Ss} {K:Ss→Prop} {d:Option Nat} {op:Op} {t:TypeId} {p:String} {af:Array Edge} {j:Nat} {want:Bool} {acc:List (List Nat×List Nat)}
theorem fX (h1:mX A acc.reverse=true) (h:K σ):fQ X E A [] σ acc K:=⟨h1,h⟩
theorem jF (h:∀K':Ss→Prop,(∀s,fQ X E A r s ((iC σ ⟨d,op,t,p,af,none⟩,(s.rs.take (s.rs.length-σ.rs.length)).map (·.1))::acc) K→K' s)→kZ E d op σ K'):fQ X E A (⟨d,op,t,p,af,none⟩::r) σ acc K:= .inl (h _ fun _ h=>h)
theorem aG3 (h:∀K':Ss→Prop,(∀s,fQ X E A r s ((iC σ ⟨d,op,t,p,af,none⟩,(s.rs.take (s.rs.length-σ.rs.length)).map (·.1))::acc) K→K' s)→HkX X E d op σ K') (hm:aBn op=false:=by rfl):fQ X E A (⟨d,op,t,p,af,none⟩::r) σ acc K:= .inr ⟨.inl rfl,hm,h _ fun _ h=>h⟩
theorem kM {g:Nat} (hs:dV A j=some g) (h:∀K':Ss→Prop,(∀s,fQ X E A r s ((iC σ ⟨d,op,t,p,af,some (j,want)⟩,(s.rs.take (s.rs.length-σ.rs.length)).map (·.1))::acc) K→K' s)→jD (lk σ.tm g) want (kZ E d op σ K') (K' (σ.ap d (.v undef) [] σ.nx))):
  fQ X E A (⟨d,op,t,p,af,some (j,want)⟩::r) σ acc K:=by
 have h1:=h _ fun _ h=>h
 refine .inl ?_
 simp only [evO,aHa,hs]
 exact h1
end
def RdOk (X:Cx) (R:World→(Nat→Prop)→Prop):Prop:=∀(w:World) (S:Nat→Prop),Agree X.S X.w0 w→(∀b,X.S b→S b)→R w S
end Go.Eng
end
section
namespace Go.Eng
open Go
def VR (X:Cx) (E:Env) (c:Code) (Q:Exit→Ss→Prop):Nat→Ss→Prop
 |0,_=>False
 |n+1,σ=>V X E c σ (nxt (fun t=>VR X E c Q n t) Q)
theorem aDq {X:Cx} {E:Env} {σ:Ss} {Q:Exit→Ss→Prop} {c:Code} (n:Nat) (h:VR X E c Q n σ):V X E (.loop c) σ Q:=fun hk a w hg=>
 wpIn_loop_ghost (fun m a w=>∃τ:Ss,aGQ X (lk τ.tm) (rsL τ.rs) a w∧VR X E c Q m τ) n ⟨σ,hg,h⟩ fun m a w ⟨τ,hg,hv⟩=>by
  cases m with
  |zero=>exact hv.elim
  |succ m=>
   refine wpIn_mono (hv hk a w hg) fun e a' w' ⟨t,h1,h2⟩=>?_
   cases e with
   |normal=>exact⟨m,Nat.lt_succ_self _,t,h1,h2⟩
   |exit i=>exact⟨t,h1,h2⟩
   |goto l=>exact⟨t,h1,h2⟩
   |ret=>exact⟨t,h1,h2⟩
   |panic ch=>exact⟨t,h1,h2⟩
   |outgrown=>exact⟨t,h1,h2⟩
theorem aPv {X:Cx} {E:Env} {c:Code} {σ:Ss} {Q:Exit→Ss→Prop} (h:V X E c σ (nxt (fun t=>VR X E c Q 1 t) Q)):VR X E c Q 2 σ:=h
theorem aPu {X:Cx} {E:Env} {c:Code} {σ:Ss} {Q:Exit→Ss→Prop} (h:V X E c σ (nxt (fun t=>VR X E c Q 0 t) Q)):VR X E c Q 1 σ:=h
@[congr] theorem aPw {X:Cx} {E:Env} {c:Code} {σ τ:Ss} {Q:Exit→Ss→Prop} {n:Nat} (h:Unit→σ=τ):VR X E c Q n σ=VR X E c Q n τ:=by rw [h ()]
/-! ### A region in which some operations are answered by hand -/
def lB (E:Env):List Oper→Ss→(Ss→Prop)→Prop
 |[],σ,K=>K σ
 |o::l,σ,K=>o.guard=none∧(kZ E o.dst o.op σ (fun s=>lB E l s K)∨dI E o.dst o.op σ (fun s=>lB E l s K))
theorem xL {X:Cx} {E:Env} {K:Ss→Prop} (hk:E.hk X.c0 X.rs0) {opsA:List Oper}:∀(l:List Oper) (σ:Ss),(∀o∈l,∀k,o.dst=some k→k<X.n)→lB E l σ K→
  ∀a w (Q:Exit→Act→World→Prop),Gam X (lk σ.tm) (rsL σ.rs) a w→(∀s a' w',Gam X (lk s.tm) (rsL s.rs) a' w'→K s→Q .normal a' w')→wpListIn X.F 0 E.P opsA.toArray Q l a w
 |[],σ,_,h,a,w,Q,hg,hQ=>wpListIn_nil (hQ σ a w hg h)
 |o::l,σ,hl,h,a,w,Q,hg,hQ=>by
  obtain⟨hgd,h⟩:=h
  have ih:=fun(s:Ss) (hs:lB E l s K)=>xL hk (opsA:=opsA) l s (fun o ho=>hl o (by simp [ho])) hs
  have hf:∃foot sv ru nx,zM X E.P o (lk σ.tm) (rsL σ.rs) foot sv ru∧lB E l (σ.ap o.dst sv ru nx) K:=by
   rcases h with h|h
   ·obtain⟨foot,sv,ru,nx,h1,h2,_⟩:=sL (X:=X) hk (hl o (by simp)) h
    exact⟨foot,sv,ru,nx,h1,h2⟩
   ·obtain⟨foot,sv,ru,nx,h1,h2,_⟩:=h
    exact⟨foot,sv,ru,nx,h1 X o hk rfl rfl (hl o (by simp)),h2⟩
  obtain⟨foot,sv,ru,nx,h1,h2⟩:=hf
  have hwant:Region.wanted o (yielded opsA.toArray a.tmps)=true:=by simp [Region.wanted,hgd]
  unfold wpListIn
  rw [if_pos hwant]
  refine h1 _ _ (fun _ _=>rfl) (fun _ _=>rfl) a w _ Q hg fun a' w' hg'=>?_
  refine ih _ h2 a' w' Q ?_ hQ
  rw [aGj,aC5];exact hg'
theorem iY {X:Cx} {E:Env} {σ:Ss} {Q:Exit→Ss→Prop} (id:Nat) {l:List Oper} (hn:l.all (fun o=>o.dst.all (fun k=>decide (k<X.n)))=true) (h:∀K:Ss→Prop,(∀s,Q .normal s→K s)→lB E l σ K):V X E (.region id l.toArray false) σ Q:=fun hk a w hg=>by
 obtain⟨w1,U1,ds,hr,hg⟩:=hg
 have hn':∀o'∈l,∀k,o'.dst=some k→k<X.n:=fun o ho k hk=>by
  have:=List.all_eq_true.1 hn o ho
  rw [hk]at this
  simpa using this
 exact wpIn_region_list (xL (X:=X.at w1 U1 ds) hk l σ hn' (h _ fun _ h=>h) a w _ hg fun s a' w' hg' hK=>⟨s,⟨w1,U1,ds,hr,hg'⟩,hK⟩)
section
variable {E:Env} {l:List Oper} {σ:Ss} {K:Ss→Prop} {d:Option Nat} {op:Op} {t:TypeId} {p:String} {af:Array Edge}
theorem pL (h:K σ):lB E [] σ K:=h
theorem pM (h:kZ E d op σ (fun s=>lB E l s K)):lB E (⟨d,op,t,p,af,none⟩::l) σ K:=⟨rfl, .inl h⟩
theorem fY (h:dI E d op σ (fun s=>lB E l s K)):lB E (⟨d,op,t,p,af,none⟩::l) σ K:=⟨rfl, .inr h⟩
end
end Go.Eng
end
section
namespace Go.Eng
open Go Go.Cats
def Lent (X:Cx) (x:Value) (d:Dt):Prop:=RdV X.w0 X.S d x
theorem Lent.at {X:Cx} {x:Value} {d:Dt} (h:Lent X x d) {w:World} {S:Nat→Prop} (ag:Agree X.S X.w0 w) (hS:∀b,X.S b→S b):RdV w S d x:=RdV.mono hS _ _ (RdV.frame ag _ _ h)
theorem RdOk.at {X:Cx} {w1:World} {U1:Nat→Prop} {ds:List Deferred} (hr:Reb X w1 U1 ds) {R:World→(Nat→Prop)→Prop} (h:RdOk X R):RdOk (X.at w1 U1 ds) R:=fun w S ag hS=>h w S ((hr.agree.mono hr.ssub).trans ag) hS
end Go.Eng
end
