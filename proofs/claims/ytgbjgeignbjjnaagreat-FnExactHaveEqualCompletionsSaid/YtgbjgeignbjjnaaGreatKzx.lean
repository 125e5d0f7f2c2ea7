/- Several texts in one: EngLd, EngCp. -/
import Derived.Test.YtgbjgeignbjjnaaGreatKalx
set_option linter.unusedVariables false
set_option linter.unusedSimpArgs false
section
namespace Go.Eng
open Go
def unAb : Ab:=⟨fun _ _ _=>True,fun _ h=>h⟩
def unD : Dt:=.ab unAb
theorem unD_rd {w : World} {R : Nat → Prop} {u : Value} (h : u.oneCell' = true) : RdV w R unD u:=by
  unfold unD
  simp only [RdV]
  exact ⟨h,fun _=>False,fun _ h=>h.elim,trivial⟩
def viewA (V : List Nat) (rs : Nat → Rs) : List Sv → List Dt → Prop
  | [],ds=>ds = []
  | s :: l,ds=>∃ d r,ds = d :: r ∧ ((d = unD ∧ s.one = true) ∨ s.view0 V rs d) ∧ viewA V rs l r
theorem viewA_nil {V : List Nat} {rs : Nat → Rs} : viewA V rs [] []:=rfl
theorem viewA_any {V : List Nat} {rs : Nat → Rs} {s : Sv} {l : List Sv} {r : List Dt} (h : s.one = true) (k : viewA V rs l r) : viewA V rs (s :: l) (unD :: r):=⟨_,_,rfl,.inl ⟨rfl,h⟩,k⟩
theorem viewA_rd {V : List Nat} {rs : Nat → Rs} {s : Sv} {d : Dt} {l : List Sv} {r : List Dt} (h : s.view0 V rs d) (k : viewA V rs l r) : viewA V rs (s :: l) (d :: r):=⟨_,_,rfl,.inr h,k⟩
theorem viewA_sl {V : List Nat} {rs : Nat → Rs} {i : Nat} {d : Dt} {l : List Sv} {r : List Dt} (h : i ∈ V) (h2 : (rs i).k = .arr d) (k : viewA V rs l r) : viewA V rs (.sl i :: l) (d :: r):=⟨_,_,rfl,.inr ⟨h,h2⟩,k⟩
theorem viewA_ok {w w0 : World} {U S : Nat → Prop} {c : Nat → Cn} {rs : Nat → Rs} {V : List Nat} (hp : Hp w0 U S c rs w) : ∀ {l : List Sv} {ds : List Dt} {us : List Value},viewA V rs l ds → Sv.okL w S c rs l us → RdL w (SV S c V) ds us
  | [],ds,us,h,k=>by simp [viewA] at h;simp [Sv.okL] at k;subst h;subst k;simp [RdL]
  | s :: l,ds,us,h,k=>by
    simp only [viewA] at h
    simp only [Sv.okL] at k
    obtain ⟨d,r,rfl,h1,h2⟩:=h
    obtain ⟨x,q,rfl,k1,k2⟩:=k
    simp only [RdL]
    refine ⟨x,q,rfl,?_,viewA_ok hp h2 k2⟩
    rcases h1 with ⟨rfl,h1⟩|h1
    · exact unD_rd (Sv.one_ok hp.one h1 k1)
    · exact view0_ok hp h1 k1
end Go.Eng
end
section
namespace Go.Eng
open Go
theorem viewA_congr {V : List Nat} {rs rs0 : Nat → Rs} (hv : ∀ i ∈ V,rs i = rs0 i) : ∀ {l : List Sv} {ds : List Dt},viewA V rs0 l ds → viewA V rs l ds
  | [],ds,h=>h
  | s :: l,ds,h=>by
    obtain ⟨d,r,e,h1,h2⟩:=h
    refine ⟨d,r,e,?_,viewA_congr hv h2⟩
    rcases h1 with h1 | h1
    · exact .inl h1
    · refine .inr ?_
      have tv : ∀ ts : List (Nat × Nat),TagV rs0 ts → (∀ p ∈ ts,p.1 ∈ V) → TagV rs ts:=fun ts h k p hp=>by
        rw [hv _ (k p hp)];exact h p hp
      cases s with
      | v x=>exact h1
      | bor ts d'=>exact ⟨h1.1,tv _ h1.2.1 h1.2.2,h1.2.2⟩
      | bptr ts ds' =>
        obtain ⟨ds,a,b,c,d⟩:=h1
        exact ⟨ds,a,b,tv _ c d,d⟩
      | sl i=>exact ⟨h1.1,by rw [hv i h1.1];exact h1.2⟩
      | _=>exact h1.elim
theorem shows_box {V : List Nat} {rs0 : Nat → Rs} {i cv : Nat} {cells : List Sv} {ds : List Dt} (hi : rs0 i = ⟨cv,.box cells⟩) (hV : i ∈ V) (hv : viewA V rs0 (cells.take ds.length) ds) : Shows V rs0 (.ptr i 0) (.bptr [] ds):=fun w0 w U S c c' rs u hh ha h=>by
  simp only [Sv.ok] at h ⊢
  obtain ⟨_,rfl⟩:=h
  have r1:=hh.res i
  rw [ha i hV,hi] at r1
  obtain ⟨b1,cur1,q1,b2,b3⟩:=r1
  refine ⟨fun p hp=>(nomatch hp),rfl,fun _=>?_⟩
  have g1:=viewA_ok hh (viewA_congr ha hv) (by have:=Sv.okL.slice cells cur1.toList 0 ds.length b3;simpa using this)
  refine ⟨(c i).blk,0,_,rfl,fun _=>.inl (.inr ⟨i,hV,b1⟩),RdL.mono (fun b hb=>.inl hb) _ _ g1,fun l z hz=>?_⟩
  rw [List.getElem?_take] at hz
  split at hz
  · simp [World.cell?,b2];simpa using hz
  · cases hz
theorem shows_cap {V : List Nat} {rs0 : Nat → Rs} {i m cv cw : Nat} {cells : List Sv} {ds : List Dt} (hi : rs0 i = ⟨cv,.box [.ptr m 0]⟩) (hm : rs0 m = ⟨cw,.box cells⟩) (hV : i ∈ V) (hW : m ∈ V) (hv : viewA V rs0 (cells.take ds.length) ds) : Shows V rs0 (.ptr i 0) (.bptr [] [.pt ds]):=fun w0 w U S c c' rs u hh ha h=>by
  simp only [Sv.ok] at h ⊢
  obtain ⟨_,rfl⟩:=h
  have r1:=hh.res i
  rw [ha i hV,hi] at r1
  obtain ⟨b1,cur1,q1,b2,b3⟩:=r1
  have r2:=hh.res m
  rw [ha m hW,hm] at r2
  obtain ⟨d1,cur2,q2,d2,d3⟩:=r2
  refine ⟨fun p hp=>(nomatch hp),rfl,fun _=>?_⟩
  simp only [Sv.okL] at b3
  obtain ⟨y,r,b4,b5,rfl⟩:=b3
  simp only [Sv.ok] at b5
  have hreg : ∀ b,SV S c V b → Reg (SV S c V) c' [] b:=fun b hb=>.inl hb
  refine ⟨(c i).blk,0,[y],rfl,fun _=>hreg _ (.inr ⟨i,hV,b1⟩),?_,fun l z hz=>?_⟩
  · simp only [RdL]
    refine ⟨y,[],rfl,?_,rfl⟩
    simp only [RdV]
    have g1:=viewA_ok hh (viewA_congr ha hv) (by have:=Sv.okL.slice cells cur2.toList 0 ds.length d3;simpa using this)
    refine ⟨(c m).blk,0,_,b5.2,fun _=>hreg _ (.inr ⟨m,hW,d1⟩),RdL.mono hreg _ _ g1,fun l z hz=>?_⟩
    rw [List.getElem?_take] at hz
    split at hz
    · simp [World.cell?,d2];simpa using hz
    · cases hz
  · have hz' : cur1.toList[l]? = some z:=by rw [b4];exact hz
    simp [World.cell?,b2];simpa using hz'
theorem HkX.callC {X : Cx} {E : Env} {d : Option Nat} {x : Operand} {args : Array Operand} {tys : Array TypeId} {σ : Ss} {K : Ss → Prop} {f : FuncId} {caps es : List Sv} {v : Value}
    (hs : Spec E.P f es [] (.v v) []) (hc : Callable E.P f) (V : List Nat) (hx : σ.opd x = .fn f caps) (hva : ∀ i ∈ V,1 ≤ (rsL σ.rs i).cv) (hfo : ∀ i ∈ V,i ∈ reach (rsL σ.rs) 3 ((Sv.fn f caps).ids ++ (args.toList.map σ.opd).flatMap Sv.ids)) (hm : ShowsL V (rsL σ.rs) (args.toList.map σ.opd ++ caps) es)
    (hK : K (σ.ap d (.v v) [] σ.nx)) : HkX X E d (.call { callee:=.value x,args:=args,argTypes:=tys }) σ K:=by
  refine ⟨V,_,_,_,fun w1 U1 ds hr o hd ho hdn tm rs g1 g2=>?_,hK,fun i hi=>.inl ?_⟩
  rotate_left
  · have:=hfo i hi
    rw [← hx] at this
    simpa [deepOp,Op.operands,Call.operands,List.flatMap_map] using this
  have hx' : opd tm x = σ.opd x:=g1 x (by simp [ho,Op.operands,Call.operands])
  have hargs : args.toList.map (opd tm) = args.toList.map σ.opd:=List.map_congr_left fun y hy=>g1 y (by
    simp only [ho,Op.operands,Call.operands]
    simp at hy ⊢
    exact .inr hy)
  have hco : CallOk rs [] [] V:=⟨List.nodup_nil,List.nodup_nil,fun _ _ h=>(nomatch h),fun i hi=>by rw [g2 i hi];exact hva i hi,fun _ _=>rfl,fun k hk=>absurd (show 1 ≤ 0 from hk) (by decide),fun p hp=>(nomatch hp)⟩
  refine SStep0.inn ?_
  rintro a w K' Q ⟨hd',hn,c,hp,ht,hpin⟩ hK'
  have hopd:=fun z=>opd_ok (X:=X.at w1 U1 ds) (rs:=rs) (tm:=tm) (a:=a) (w:=w) (c:=c) ht z
  have hx1:=hopd x
  rw [hx',hx] at hx1
  simp only [Sv.ok] at hx1
  obtain ⟨cvs,hx1,hx2⟩:=hx1
  have hl:=opdL_ok hopd args.toList
  rw [hargs] at hl
  have hcall:=hs w _ _ _ _ (call_pre hp hco) (ShowsL.ok _ hp g2 _ _ _ hm (hl.append hx2))
  unfold Oper.wp
  have hrun : (execOp a.eval o).run E.P w = .ok (.enter f (args.toList.map a.eval ++ cvs).toArray) w:=by
    simp [execOp,ho,resolve,Deferred.ofValue,hx1,invoke,callFunc_run hc]
  rw [hrun]
  refine hcall.mono fun e w' hh=>?_
  obtain ⟨v',c1,rfl,hp1,hv,hpin1⟩:=hh
  obtain ⟨c2,hp2,hx2',hren⟩:=call_heap hp hco c1 hp1 hpin1
  rw [hd] at hK'
  refine hK' _ _ (by
    rw [hd]
    exact gam_put (X:=X.at w1 U1 ds) hd' hn ht hpin hx2' hp2 hdn (sv:=.v v) (by simpa [Sv.ok] using hv))
end Go.Eng
end
