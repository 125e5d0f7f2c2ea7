/- Several texts in one: C05, C11, C04, C09, C08, C12, C13, C10, C06. -/
import Derived.Test.YtgbjgeignbjjnaaGreatKex
import Derived.Test.YtgbjgeignbjjnaaGreatC01q
import Derived.Test.YtgbjgeignbjjnaaGreatG11q
set_option linter.unusedSimpArgs false
set_option linter.unusedVariables false
set_option maxRecDepth 100000
set_option maxHeartbeats 16000000
section
namespace Go.Eng
open Go Go.Proofs Go.Cats
attribute [local go_sem] cO_zero colN_zero colN_len cA_zero
theorem cal_l02Hom : Callable Tryz.prog 24:=⟨_,Tryz.func24,rfl,rfl⟩
theorem sp_l02Hom {c : Cat} {x y : Int} (hl : c.fr.length ≤ 1048576) (ht : c.to.length = c.fr.length) : Spec Tryz.prog 24 [catV c,iv x,iv y] [] (.sl 0) [(0,⟨1,.arr (ints (c.hom x y))⟩)]:=by
  refine spec_of_V (E:=TE) 0 Tryz.func24 rfl (by simp [Tryz.f24]) fun X hn hX=>?_
  repeat' (first|(with_reducible first|refine V_seq ?_|refine V_block ?_|refine V_skip ?_|refine V_ret ?_|refine V_exit ?_)|((with_reducible refine V_cond ?_);simp only [go_sem,simprocAttr])|((refine V_region (by rw [hn];rfl) ?_);intro K hK)|((first|with_reducible refine evOps_n ?_|((with_reducible apply evOps_g);rfl));intro K hK;simp (contextual:=true) only [go_sem,simprocAttr])|with_reducible refine evOps_nil ?_|((with_reducible refine hK _ ?_);clear hK K)|(with_reducible first|refine And.intro ?_ ?_|refine nxt_n ?_|refine nxt_r ?_|refine nxt_e ?_|refine blk_n ?_|refine blk_r ?_|refine blk_same ?_|refine blk_other (by decide) ?_|refine noG_n ?_|refine noG_r ?_|refine noG_e ?_|refine inR_mk ?_ ?_)|(refine fun (hc : (_ : Bool) = _)=>?_;try simp only [hcS] at hc))
  all_goals try exact om_
  refine V_loopK (G:={i : Nat // i ≤ c.fr.length ∧ (True)}) (fun ⟨i,_⟩=>[(8,iv i),(7,.sl 1)]) [1,2,3,6] (fun ⟨i,_⟩=>[(1,⟨1,.arr (ints (c.homI x y i))⟩)]) [1] (fun zz=>c.fr.length - zz.1) ⟨0,Nat.zero_le _,by first|trivial|simp⟩ ?_ ?_
  · exact Imp.au hX
  rintro ⟨i,hii,hwi⟩
  simp only [go_sem,simprocAttr]
  have hlen:=c.homI_len x y i
  repeat' (first|(with_reducible first|refine V_seq ?_|refine V_block ?_|refine V_skip ?_|refine V_ret ?_|refine V_exit ?_)|((with_reducible refine V_cond ?_);simp only [go_sem,simprocAttr])|((refine V_region (by rw [hn];rfl) ?_);intro K hK)|((first|with_reducible refine evOps_n ?_|((with_reducible apply evOps_g);rfl));intro K hK;simp (contextual:=true) only [go_sem,simprocAttr])|with_reducible refine evOps_nil ?_|((with_reducible refine hK _ ?_);clear hK K)|(with_reducible first|refine And.intro ?_ ?_|refine nxt_n ?_|refine nxt_r ?_|refine nxt_e ?_|refine blk_n ?_|refine blk_r ?_|refine blk_same ?_|refine blk_other (by decide) ?_|refine noG_n ?_|refine noG_r ?_|refine noG_e ?_|refine inR_mk ?_ ?_)|(refine fun (hc : (_ : Bool) = _)=>?_;try simp only [hcS] at hc))
  all_goals try exact om_
  all_goals try (refine ⟨⟨i + 1,by omega,(by trivial)⟩,by simp only;omega,Imp.auto hX (by simp only [go_sem,simprocAttr,Cat.homI_succ, *])⟩)
  · (first|refine ret_auto ?_|refine ret_auto' ?_);simp only [go_sem,simprocAttr,Tryz.f24]
    have : i = c.fr.length:=by omega
    subst this
    simp [Cat.hom]
theorem cal_l09Column : Callable Tryz.prog 26:=⟨_,Tryz.func26,rfl,rfl⟩
theorem sp_l09Column {l : List (List Int)} {k : Nat} (hl : l.length ≤ 1048576) (hk : ∀ i,i < l.length → k < (l.getD i []).length) : Spec Tryz.prog 26 [.bor [] (intss l),iv k] [] (.sl 0) [(0,⟨1,.arr (ints (colN l k l.length))⟩)]:=by
  refine spec_of_V (E:=TE) 0 Tryz.func26 rfl (by simp [Tryz.f26]) fun X hn hX=>?_
  repeat' (first|(with_reducible first|refine V_seq ?_|refine V_block ?_|refine V_skip ?_|refine V_ret ?_|refine V_exit ?_)|((with_reducible refine V_cond ?_);simp only [go_sem,simprocAttr])|((refine V_region (by rw [hn];rfl) ?_);intro K hK)|((first|with_reducible refine evOps_n ?_|((with_reducible apply evOps_g);rfl));intro K hK;simp (contextual:=true) only [go_sem,simprocAttr])|with_reducible refine evOps_nil ?_|((with_reducible refine hK _ ?_);clear hK K)|(with_reducible first|refine And.intro ?_ ?_|refine nxt_n ?_|refine nxt_r ?_|refine nxt_e ?_|refine blk_n ?_|refine blk_r ?_|refine blk_same ?_|refine blk_other (by decide) ?_|refine noG_n ?_|refine noG_r ?_|refine noG_e ?_|refine inR_mk ?_ ?_)|(refine fun (hc : (_ : Bool) = _)=>?_;try simp only [hcS] at hc))
  all_goals try exact om_
  refine V_loopK (G:={i : Nat // i ≤ l.length ∧ (True)}) (fun ⟨i,_⟩=>[(6,iv i),(5,.sl 0)]) [0,1,4] (fun ⟨i,_⟩=>[(0,⟨1,.arr (ints (colN l k i))⟩)]) [0] (fun zz=>l.length - zz.1) ⟨0,Nat.zero_le _,by first|trivial|simp⟩ ?_ ?_
  · exact Imp.au hX
  rintro ⟨i,hii,hwi⟩
  simp only [go_sem,simprocAttr]
  have h1:=hk i
  repeat' (first|(with_reducible first|refine V_seq ?_|refine V_block ?_|refine V_skip ?_|refine V_ret ?_|refine V_exit ?_)|((with_reducible refine V_cond ?_);simp only [go_sem,simprocAttr])|((refine V_region (by rw [hn];rfl) ?_);intro K hK)|((first|with_reducible refine evOps_n ?_|((with_reducible apply evOps_g);rfl));intro K hK;simp (contextual:=true) only [go_sem,simprocAttr])|with_reducible refine evOps_nil ?_|((with_reducible refine hK _ ?_);clear hK K)|(with_reducible first|refine And.intro ?_ ?_|refine nxt_n ?_|refine nxt_r ?_|refine nxt_e ?_|refine blk_n ?_|refine blk_r ?_|refine blk_same ?_|refine blk_other (by decide) ?_|refine noG_n ?_|refine noG_r ?_|refine noG_e ?_|refine inR_mk ?_ ?_)|(refine fun (hc : (_ : Bool) = _)=>?_;try simp only [hcS] at hc))
  all_goals try exact om_
  · refine ⟨⟨i + 1,by omega,(by trivial)⟩,by simp only;omega,Imp.auto hX (by simp only [go_sem,simprocAttr,colN_succ (show i < l.length by omega)])⟩
  · (first|refine ret_auto ?_|refine ret_auto' ?_);simp only [go_sem,simprocAttr,Tryz.f26]
    rw [show l.length = i by omega]
theorem cal_l02Fits : Callable Tryz.prog 13:=⟨_,Tryz.func13,rfl,rfl⟩
theorem sp_l02Fits {c : Cat} (hl : c.fr.length ≤ 1048576) : Spec Tryz.prog 13 [catV c] [] (bv (dec (c.ob ≤ 8 ∧ c.fr.length ≤ 40))) []:=by
  refine spec_of_V (E:=TE) 0 Tryz.func13 rfl (by simp [Tryz.f13]) fun X hn hX=>?_
  repeat' (first|(with_reducible first|refine V_seq ?_|refine V_skip ?_|refine V_ret ?_)|((with_reducible refine V_cond ?_);simp only [go_sem,simprocAttr])|((refine V_region (by rw [hn];rfl) ?_);intro K hK)|((first|with_reducible refine evOps_n ?_|((with_reducible apply evOps_g);rfl));intro K hK;simp (contextual:=true) only [go_sem,simprocAttr])|with_reducible refine evOps_nil ?_|((with_reducible refine hK _ ?_);clear hK K)|(with_reducible first|refine And.intro ?_ ?_|refine nxt_n ?_|refine nxt_r ?_|refine inR_mk ?_ ?_)|(refine fun (hc : (_ : Bool) = _)=>?_;try simp only [hcS] at hc))
  all_goals try exact om_
  · (first|refine ret_auto ?_|refine ret_auto' ?_);simp only [go_sem,simprocAttr,Tryz.f13]
    exact congrArg (fun b=>Sv.v (.bool b)) (by rw [dec_eq];simp [hc];omega)
  · (first|refine ret_auto ?_|refine ret_auto' ?_);simp only [go_sem,simprocAttr,Tryz.f13]
    exact bv_f fun h=>by omega
theorem cal_l09Find : Callable Tryz.prog 27:=⟨_,Tryz.func27,rfl,rfl⟩
theorem sp_l09Find {l : List (List Int)} {r : List Int} (hl : l.length ≤ 1048576) (hr : r.length ≤ 1048576) (hk : ∀ i,i < l.length → (l.getD i []).length ≤ 1048576) : Spec Tryz.prog 27 [.bor [] (intss l),.bor [] (ints r)] [] (iv (fnd l r)) []:=by
  refine spec_of_V (E:=TE) 0 Tryz.func27 rfl (by simp [Tryz.f27]) fun X hn hX=>?_
  repeat' (first|(with_reducible first|refine V_seq ?_|refine V_block ?_|refine V_skip ?_|refine V_ret ?_|refine V_exit ?_)|((with_reducible refine V_cond ?_);simp only [go_sem,simprocAttr])|((refine V_region (by rw [hn];rfl) ?_);intro K hK)|((first|with_reducible refine evOps_n ?_|((with_reducible apply evOps_g);rfl));intro K hK;simp (contextual:=true) only [go_sem,simprocAttr])|with_reducible refine evOps_nil ?_|((with_reducible refine hK _ ?_);clear hK K)|(with_reducible first|refine And.intro ?_ ?_|refine nxt_n ?_|refine nxt_r ?_|refine nxt_e ?_|refine blk_n ?_|refine blk_r ?_|refine blk_same ?_|refine blk_other (by decide) ?_|refine noG_n ?_|refine noG_r ?_|refine noG_e ?_|refine inR_mk ?_ ?_)|(refine fun (hc : (_ : Bool) = _)=>?_;try simp only [hcS] at hc))
  all_goals try exact om_
  refine V_loopK (G:={i : Nat // i ≤ l.length ∧ (scan i (fndO l r) = none)}) (fun ⟨i,_⟩=>[(5,iv i)]) [0,1] (fun ⟨i,_⟩=>[]) [] (fun zz=>l.length - zz.1) ⟨0,Nat.zero_le _,by rfl⟩ ?_ ?_
  · exact Imp.au hX
  rintro ⟨i,hii,hwi⟩
  simp only [go_sem,simprocAttr]
  have h1:=hk i
  repeat' (first|(with_reducible first|refine V_seq ?_|refine V_block ?_|refine V_skip ?_|refine V_ret ?_|refine V_exit ?_)|((with_reducible refine V_cond ?_);simp only [go_sem,simprocAttr])|((refine V_region (by rw [hn];rfl) ?_);intro K hK)|((first|with_reducible refine evOps_n ?_|((with_reducible apply evOps_g);rfl));intro K hK;simp (contextual:=true) only [go_sem,simprocAttr])|with_reducible refine evOps_nil ?_|((with_reducible refine hK _ ?_);clear hK K)|(with_reducible first|refine And.intro ?_ ?_|refine nxt_n ?_|refine nxt_r ?_|refine nxt_e ?_|refine blk_n ?_|refine blk_r ?_|refine blk_same ?_|refine blk_other (by decide) ?_|refine noG_n ?_|refine noG_r ?_|refine noG_e ?_|refine inR_mk ?_ ?_)|((with_reducible refine evCall_at 40 ?_);refine EvCall.rq (a:=(sp_l01Same ?_ ?_)) (b:=cal_l01Same) (c:=?_);all_goals try simp only [go_sem,simprocAttr])|(refine fun (hc : (_ : Bool) = _)=>?_;try simp only [hcS] at hc))
  all_goals try exact om_
  · (first|refine ret_auto ?_|refine ret_auto' ?_);simp only [go_sem,simprocAttr,Tryz.f27]
    rw [fnd_hit hwi (by omega) hc]
  · refine ⟨⟨i + 1,by omega,(by exact scan_next hwi (fndO_f hc))⟩,by simp only;omega,Imp.ao hX⟩
  · (first|refine ret_auto ?_|refine ret_auto' ?_);simp only [go_sem,simprocAttr,Tryz.f27]
    rw [fnd_none (scan_end hwi hii (by omega))]
end Go.Eng
end
section
namespace Go.Eng
open Go Go.Proofs Go.Cats
def tEnt (fr to : List Int) (h : Nat → Nat → Int) (i j : Nat) : Int:=if to.getD i 0 = fr.getD j 0 then h i j else -1
def tRow (fr to : List Int) (h : Nat → Nat → Int) (i j : Nat) : List Int:=(List.range j).map (tEnt fr to h i) ++ List.replicate (fr.length - j) 0
def tRows (fr to : List Int) (h : Nat → Nat → Int) (i : Nat) : List (List Int):=(List.range i).map fun k=>(List.range fr.length).map (tEnt fr to h k)
section
variable {fr to : List Int} {h : Nat → Nat → Int} {i j m : Nat}
@[go_sem] theorem tRows_zero : tRows fr to h 0 = []:=rfl
theorem tRows_len : (tRows fr to h i).length = i:=by simp [tRows]
theorem tRow_len (hj : j ≤ fr.length) : (tRow fr to h i j).length = fr.length:=by simp [tRow];omega
theorem tRow_zero : List.replicate fr.length 0 = tRow fr to h i 0:=by simp [tRow]
theorem tRow_set (hj : j < fr.length) (x : Int) : (tRow fr to h i j).set j x = (List.range j).map (tEnt fr to h i) ++ x :: List.replicate (fr.length - (j + 1)) 0:=by
  have e : fr.length - j = fr.length - (j + 1) + 1:=by omega
  unfold tRow
  rw [List.set_append_right _ _ (by simp),e]
  simp [List.replicate_succ]
theorem tRow_succ (hj : j < fr.length) : tRow fr to h i (j + 1) = (List.range j).map (tEnt fr to h i) ++ tEnt fr to h i j :: List.replicate (fr.length - (j + 1)) 0:=by
  simp [tRow,List.range_succ]
theorem tRow_no (hj : j < fr.length) (hc : ¬ to.getD i 0 = fr.getD j 0) : (tRow fr to h i j).set j (-1) = tRow fr to h i (j + 1):=by
  rw [tRow_set hj,tRow_succ hj,tEnt,if_neg hc]
theorem tRow_yes (hj : j < fr.length) (hc : to.getD i 0 = fr.getD j 0) : ((tRow fr to h i j).set j (-1)).set j (h i j) = tRow fr to h i (j + 1):=by
  rw [List.set_set,tRow_set hj,tRow_succ hj,tEnt,if_pos hc]
theorem tRows_succ : tRows fr to h i ++ [tRow fr to h i fr.length] = tRows fr to h (i + 1):=by
  simp [tRows,tRow,List.range_succ]
theorem tb_at {x : List Int} : (intsN (tRows fr to h i ++ [x]) m).at i = ints x:=by
  rw [intsN_at (by simp [tRows_len])]
  simp [List.getD_eq_getElem?_getD,tRows_len]
theorem tb_put {x r : List Int} : (intsN (tRows fr to h i ++ [x]) m).put i (ints r) = intsN (tRows fr to h i ++ [r]) m:=by
  rw [intsN_set (by simp [tRows_len]),List.set_append_right _ _ (by rw [tRows_len];omega),tRows_len,Nat.sub_self]
  rfl
theorem tb_new (hi : i < fr.length) : (intsN (tRows fr to h i) (fr.length - i)).put i (ints (List.replicate fr.length 0)) = intsN (tRows fr to h i ++ [tRow fr to h i 0]) (fr.length - (i + 1)):=by
  have e : fr.length - i = fr.length - (i + 1) + 1:=by omega
  have e2:=intsN_put (tRows fr to h i) (fr.length - (i + 1)) (List.replicate fr.length 0)
  rw [tRows_len] at e2
  rw [e,e2,tRow_zero]
end
theorem sp_Category_arrows_tb {ob : Int} {fr to id : List Int} : Spec Tryz.prog 48 [.bptr [] [.v (.int .i64 ob),ints fr,ints to,ints id,.v (.slice none 0 0)]] [] (iv fr.length) []:=by
  refine spec_of_V (E:=TE) 0 Tryz.func48 rfl (by simp [Tryz.f48]) fun X hn hX=>?_
  repeat' (first|(with_reducible first|refine V_seq ?_|refine V_skip ?_|refine V_ret ?_)|((with_reducible refine V_cond ?_);simp only [go_sem,simprocAttr])|((refine V_region (by rw [hn];rfl) ?_);intro K hK)|((first|with_reducible refine evOps_n ?_|((with_reducible apply evOps_g);rfl));intro K hK;simp (contextual:=true) only [go_sem,simprocAttr])|with_reducible refine evOps_nil ?_|((with_reducible refine hK _ ?_);clear hK K)|(with_reducible first|refine And.intro ?_ ?_|refine nxt_n ?_|refine nxt_r ?_|refine inR_mk ?_ ?_)|(refine fun (hc : (_ : Bool) = _)=>?_;try simp only [hcS] at hc))
  (first|refine ret_auto ?_|refine ret_auto' ?_);simp only [go_sem,simprocAttr,Tryz.f48]
theorem cal_Category_table : Callable Tryz.prog 35:=⟨_,Tryz.func35,rfl,rfl⟩
end Go.Eng
end
section
namespace Go.Eng
open Go Go.Proofs Go.Cats
attribute [go_sem] cO_zero colN_zero colN_len
end Go.Eng
end
section
namespace Go.Eng
open Go Go.Proofs Go.Cats
abbrev cmK (f e : Fun) (h : Value) (d : Dt) : Rk:=.bx [.bptr [] (funD f),.bptr [] (funD e),.v h,.dead] 3 d
abbrev cmL (f e : Fun) (h : Value) (s t : Nat) (p q : List Int) (A : List (List Int)) : List (Nat × Rs) :=
  [(3,⟨1,cmK f e h (intss A)⟩),(8,⟨1,.box [.ptr 3 0]⟩),(9,⟨1,.box [.bor [] (ints p)]⟩),(10,⟨1,.box [.bor [] (ints q)]⟩),(7,⟨1,.box [iv t]⟩),(4,⟨1,.box [.ptr 3 0]⟩),(0,⟨1,.box [.v (.pointer none)]⟩),(1,⟨1,.box [.v (.bool false)]⟩),(6,⟨1,.box [iv s]⟩)]
abbrev cmI : List Nat:=[3,8,9,10,7,4,0,1,6]
attribute [local go_sem] cmK cmL
end Go.Eng
end
section
namespace Go.Eng
open Go Go.Proofs Go.Cats
attribute [local go_sem] cA_zero cmK
@[go_sem] theorem one_nil_c8 : (Value.slice none 0 0).oneCell' = true:=rfl
@[go_sem] theorem one_ptr_c8 : (Value.pointer none).oneCell' = true:=rfl
attribute [local go_sem] cmL idML cmI
end Go.Eng
end
section
namespace Go.Eng
open Go Go.Proofs Go.Cats
attribute [local go_sem] cmK cmL
end Go.Eng
end
section
namespace Go.Eng
open Go Go.Proofs Go.Cats
attribute [local go_sem] cA_zero cmK cmL idML cmI
end Go.Eng
end
section
namespace Go.Eng
open Go Go.Proofs Go.Cats
@[go_sem] theorem bys_isSl (l) : (bys l).isSl = true:=rfl
@[go_sem] theorem bys_sz (l) : (bys l).sz = 1:=rfl
@[go_sem] theorem bys_nc (l : List Int) : (bys l).nc = l.length:=by simp [bys,Dt.nc,Dt.cells]
@[go_sem] theorem bys_len (l : List Int) : (bys l).len = l.length:=by simp [bys,Dt.len,Dt.sz,Dt.nc,Dt.cells]
@[go_sem] theorem bys_ones (l : List Int) : (bys l).ones = true:=by simp [bys,Dt.ones,Dt.cells,Dt.one,Value.oneCell']
@[go_sem] theorem bys_flat (l : List Int) : (bys l).flat = true:=by simp [bys,Dt.flat,Dt.cells,Dt.isV]
@[go_sem] theorem bys_app (l m : List Int) : Dt.app 1 (.v (.int .u8 0)) (bys l) (bys m) = bys (l ++ m):=by simp [bys,Dt.app,Dt.cells]
@[go_sem] theorem bys_nil : Dt.sl 1 (.v (.int .u8 0)) [] = bys []:=rfl
@[go_sem] theorem bys_one (n : Int) : Dt.sl 1 (.v (.int .u8 0)) [.v (.int .u8 n)] = bys [n]:=rfl
end Go.Eng
end
section
namespace Go.Eng
open Go Go.Proofs Go.Cats
attribute [local go_sem] colN_zero colN_len tb_zero tb_len
end Go.Eng
end
