/- Several texts in one: C04, C09, C08, C12, C13, C10, C11, C05, C06. -/
import Derived.Test.YtmpopmololpaoaaGreatKex
import Derived.Test.YtmpopmololpaoaaGreatC01q
import Derived.Test.YtmpopmololpaoaaGreatG11q
set_option linter.unusedSimpArgs false
set_option linter.unusedVariables false
set_option maxRecDepth 100000
set_option maxHeartbeats 16000000
section
namespace Go.Eng
open Go Go.Proofs Go.Cats
attribute [go_sem] cO_zero colN_zero colN_len
end Go.Eng
end
section
namespace Go.Eng
open Go Go.Proofs Go.Cats
abbrev cmK (f e : Fun) (h : Value) (d : Dt) : Rk:=.bx [.bptr [] (funD f),.bptr [] (funD e),.v h,.dead] 3 d
abbrev cmL (f e : Fun) (h : Value) (s t : Nat) (p q : List Int) (A : List (List Int)) : List (Nat × Rs) :=
  [(3,⟨1,cmK f e h (intss A)⟩),(8,⟨1,.box [.ptr 3 0]⟩),(9,⟨1,.box [.bor [] (ints p)]⟩),(10,⟨1,.box [.bor [] (ints q)]⟩),(7,⟨1,.box [iv t]⟩),(4,⟨1,.box [.ptr 3 0]⟩),(0,⟨1,.box [.v (.pointer none)]⟩),(1,⟨1,.box [.v (.bool false)]⟩),(6,⟨1,.box [iv s]⟩)]
abbrev cmI : List Nat:=[3,8,9,10,7,4,0,1,6]
attribute [local go_sem] cmK cmL
end Go.Eng
end
section
namespace Go.Eng
open Go Go.Proofs Go.Cats
attribute [local go_sem] cA_zero cmK
@[go_sem] theorem one_nil_c8 : (Value.slice none 0 0).oneCell' = true:=rfl
@[go_sem] theorem one_ptr_c8 : (Value.pointer none).oneCell' = true:=rfl
attribute [local go_sem] cmL idML cmI
end Go.Eng
end
section
namespace Go.Eng
open Go Go.Proofs Go.Cats
attribute [local go_sem] cmK cmL
end Go.Eng
end
section
namespace Go.Eng
open Go Go.Proofs Go.Cats
attribute [local go_sem] cA_zero cmK cmL idML cmI
end Go.Eng
end
section
namespace Go.Eng
open Go Go.Proofs Go.Cats
@[go_sem] theorem bys_isSl (l) : (bys l).isSl = true:=rfl
@[go_sem] theorem bys_sz (l) : (bys l).sz = 1:=rfl
@[go_sem] theorem bys_nc (l : List Int) : (bys l).nc = l.length:=by simp [bys,Dt.nc,Dt.cells]
@[go_sem] theorem bys_len (l : List Int) : (bys l).len = l.length:=by simp [bys,Dt.len,Dt.sz,Dt.nc,Dt.cells]
@[go_sem] theorem bys_ones (l : List Int) : (bys l).ones = true:=by simp [bys,Dt.ones,Dt.cells,Dt.one,Value.oneCell']
@[go_sem] theorem bys_flat (l : List Int) : (bys l).flat = true:=by simp [bys,Dt.flat,Dt.cells,Dt.isV]
@[go_sem] theorem bys_app (l m : List Int) : Dt.app 1 (.v (.int .u8 0)) (bys l) (bys m) = bys (l ++ m):=by simp [bys,Dt.app,Dt.cells]
@[go_sem] theorem bys_nil : Dt.sl 1 (.v (.int .u8 0)) [] = bys []:=rfl
@[go_sem] theorem bys_one (n : Int) : Dt.sl 1 (.v (.int .u8 0)) [.v (.int .u8 n)] = bys [n]:=rfl
def keyL (ls : List (List Int)) : List Int:=ls.flatMap fun l=>l ++ [255]
@[go_sem] theorem keyL_nil : keyL [] = []:=rfl
def keyS (ls : List (List Int)) : ByteArray:=strOfNums (keyL ls)
theorem keyL_step (ls : List (List Int)) (i : Nat) (h : i < ls.length) : keyL (ls.take (i + 1)) = keyL (ls.take i) ++ ls.getD i [] ++ [255]:=by
  unfold keyL
  rw [List.take_succ_eq_append_getElem h,getD_get h,List.flatMap_append,List.flatMap_cons,List.flatMap_nil,List.append_nil,List.append_assoc]
theorem keyL_in (ls : List (List Int)) (i j : Nat) (h : j < (ls.getD i []).length) : keyL (ls.take i) ++ (ls.getD i []).take j ++ [(ls.getD i []).getD j 0] = keyL (ls.take i) ++ (ls.getD i []).take (j + 1):=by
  rw [List.take_succ_eq_append_getElem h,getD_get h,List.append_assoc]
theorem keyL_len (ls : List (List Int)) (i : Nat) (hb : ∀ i,i < ls.length → (ls.getD i []).length ≤ 64) : (keyL (ls.take i)).length ≤ 65 * i:=by
  induction i with
  | zero=>simp [keyL]
  | succ i ih =>
    by_cases h : i < ls.length
    · rw [keyL_step ls i h];have:=hb i h;simp only [List.length_append,List.length_cons,List.length_nil];omega
    · rw [List.take_of_length_le (by omega)];rw [List.take_of_length_le (by omega)] at ih;omega
theorem ty_u8 : (Tryz.prog.underlying 2).isSome = true ∧ Tryz.prog.underlying 5 = some (.int .u8):=⟨by rw [Tryz.underlying2];rfl,Tryz.underlying5⟩
theorem cal_key : Callable Tryz.prog 124:=⟨_,Tryz.func124,rfl,rfl⟩
theorem sp_key {ls : List (List Int)} (hl : ls.length ≤ 64) (hb : ∀ i,i < ls.length → (ls.getD i []).length ≤ 64) (hr : ∀ i j,i < ls.length → j < (ls.getD i []).length → 0 ≤ (ls.getD i []).getD j 0 ∧ (ls.getD i []).getD j 0 < 256) : Spec Tryz.prog 124 [.bor [] (intss ls)] [] (.v (.string (keyS ls))) []:=by
  refine spec_of_V (E:=TE) 0 Tryz.func124 rfl (by simp [Tryz.f124]) fun X hn hX=>?_
  repeat' (first|(with_reducible first|refine V_seq ?_|refine V_block ?_|refine V_skip ?_|refine V_ret ?_|refine V_exit ?_)|((with_reducible refine V_cond ?_);simp only [go_sem,simprocAttr])|((refine V_region (by rw [hn];rfl) ?_);intro K hK)|((first|with_reducible refine evOps_n ?_|((with_reducible apply evOps_g);rfl));intro K hK;simp (contextual:=true) only [go_sem,simprocAttr])|with_reducible refine evOps_nil ?_|((with_reducible refine hK _ ?_);clear hK K)|(with_reducible first|refine And.intro ?_ ?_|refine nxt_n ?_|refine nxt_r ?_|refine nxt_e ?_|refine blk_n ?_|refine blk_r ?_|refine blk_same ?_|refine blk_other (by decide) ?_|refine noG_n ?_|refine noG_r ?_|refine noG_e ?_|refine inR_mk ?_ ?_)|(refine fun (hc : (_ : Bool) = _)=>?_;try simp only [hcS] at hc))
  all_goals try exact om_
  refine V_loopK (G:={i : Nat // i ≤ ls.length ∧ (True)}) (fun ⟨i,_⟩=>[(11,iv i),(3,.sl 0)]) [2,9,10] (fun ⟨i,_⟩=>[(0,⟨1,.arr (bys (keyL (ls.take i)))⟩)]) [0] (fun zz=>ls.length - zz.1) ⟨0,Nat.zero_le _,by first|trivial|simp⟩ ?_ ?_
  · exact Imp.au hX
  rintro ⟨i,hii,hwi⟩
  simp only [go_sem,simprocAttr]
  have hli:=fun h : i < ls.length=>hb i h
  have hlk:=keyL_len ls i hb
  repeat' (first|(with_reducible first|refine V_seq ?_|refine V_block ?_|refine V_skip ?_|refine V_ret ?_|refine V_exit ?_)|((with_reducible refine V_cond ?_);simp only [go_sem,simprocAttr])|((refine V_region (by rw [hn];rfl) ?_);intro K hK)|((first|with_reducible refine evOps_n ?_|((with_reducible apply evOps_g);rfl));intro K hK;simp (contextual:=true) only [go_sem,simprocAttr])|with_reducible refine evOps_nil ?_|((with_reducible refine hK _ ?_);clear hK K)|(with_reducible first|refine And.intro ?_ ?_|refine nxt_n ?_|refine nxt_r ?_|refine nxt_e ?_|refine blk_n ?_|refine blk_r ?_|refine blk_same ?_|refine blk_other (by decide) ?_|refine noG_n ?_|refine noG_r ?_|refine noG_e ?_|refine inR_mk ?_ ?_)|(refine fun (hc : (_ : Bool) = _)=>?_;try simp only [hcS] at hc))
  all_goals try exact om_
  · refine V_loopK (G:={j : Nat // j ≤ (ls.getD i []).length ∧ (True)}) (fun ⟨j,_⟩=>[(17,iv j),(3,.sl 0)]) [2,9,10,11,15,16] (fun ⟨j,_⟩=>[(0,⟨1,.arr (bys (keyL (ls.take i) ++ (ls.getD i []).take j))⟩)]) [0] (fun zz=>(ls.getD i []).length - zz.1) ⟨0,Nat.zero_le _,by simp⟩ ?_ ?_
    · exact Imp.au hX
    rintro ⟨j,hij,hwj⟩
    simp only [go_sem,simprocAttr]
    have hrj:=fun h : j < (ls.getD i []).length=>hr i j (by omega) h
    repeat' (first|(refine hook_u8 ty_u8.1 ty_u8.2 (by simp only [go_sem,simprocAttr];rfl) ?_ ?_ ?_;all_goals try simp only [go_sem,simprocAttr])|(with_reducible first|refine V_seq ?_|refine V_block ?_|refine V_skip ?_|refine V_ret ?_|refine V_exit ?_)|((with_reducible refine V_cond ?_);simp only [go_sem,simprocAttr])|((refine V_region (by rw [hn];rfl) ?_);intro K hK)|((first|with_reducible refine evOps_n ?_|((with_reducible apply evOps_g);rfl));intro K hK;simp (contextual:=true) only [go_sem,simprocAttr])|with_reducible refine evOps_nil ?_|((with_reducible refine hK _ ?_);clear hK K)|(with_reducible first|refine And.intro ?_ ?_|refine nxt_n ?_|refine nxt_r ?_|refine nxt_e ?_|refine blk_n ?_|refine blk_r ?_|refine blk_same ?_|refine blk_other (by decide) ?_|refine noG_n ?_|refine noG_r ?_|refine noG_e ?_|refine inR_mk ?_ ?_)|(refine fun (hc : (_ : Bool) = _)=>?_;try simp only [hcS] at hc))
    all_goals try exact om_
    · have e1:=keyL_in ls i j (by omega)
      refine ⟨⟨j + 1,by omega,(by trivial)⟩,by simp only;omega,Imp.auto hX (by simp only [go_sem,simprocAttr,e1])⟩
    · have e1:=keyL_step ls i (by omega)
      have e : j = (ls.getD i []).length:=by omega
      subst e
      refine ⟨⟨i + 1,by omega,(by trivial)⟩,by simp only;omega,Imp.auto hX (by simp only [go_sem,simprocAttr,e1,List.take_length])⟩
  · have e : i = ls.length:=by omega
    subst e
    repeat' (first|(refine hook_str Tryz.underlying176 Tryz.underlying5 Tryz.underlying9 (by simp only [go_sem,simprocAttr];rfl) (by simp only [go_sem,simprocAttr];rfl) ?_;all_goals try simp only [go_sem,simprocAttr])|(with_reducible first|refine V_seq ?_|refine V_block ?_|refine V_skip ?_|refine V_ret ?_|refine V_exit ?_)|((with_reducible refine V_cond ?_);simp only [go_sem,simprocAttr])|((refine V_region (by rw [hn];rfl) ?_);intro K hK)|((first|with_reducible refine evOps_n ?_|((with_reducible apply evOps_g);rfl));intro K hK;simp (contextual:=true) only [go_sem,simprocAttr])|with_reducible refine evOps_nil ?_|((with_reducible refine hK _ ?_);clear hK K)|(with_reducible first|refine And.intro ?_ ?_|refine nxt_n ?_|refine nxt_r ?_|refine nxt_e ?_|refine blk_n ?_|refine blk_r ?_|refine blk_same ?_|refine blk_other (by decide) ?_|refine noG_n ?_|refine noG_r ?_|refine noG_e ?_|refine inR_mk ?_ ?_)|(refine fun (hc : (_ : Bool) = _)=>?_;try simp only [hcS] at hc))
    (first|refine ret_auto ?_|refine ret_auto' ?_);simp only [go_sem,simprocAttr,Tryz.f124]
    rw [List.take_length];rfl
end Go.Eng
end
section
namespace Go.Eng
open Go Go.Proofs Go.Cats
def tEnt (fr to : List Int) (h : Nat → Nat → Int) (i j : Nat) : Int:=if to.getD i 0 = fr.getD j 0 then h i j else -1
def tRow (fr to : List Int) (h : Nat → Nat → Int) (i j : Nat) : List Int:=(List.range j).map (tEnt fr to h i) ++ List.replicate (fr.length - j) 0
def tRows (fr to : List Int) (h : Nat → Nat → Int) (i : Nat) : List (List Int):=(List.range i).map fun k=>(List.range fr.length).map (tEnt fr to h k)
section
variable {fr to : List Int} {h : Nat → Nat → Int} {i j m : Nat}
@[go_sem] theorem tRows_zero : tRows fr to h 0 = []:=rfl
theorem tRows_len : (tRows fr to h i).length = i:=by simp [tRows]
theorem tRow_len (hj : j ≤ fr.length) : (tRow fr to h i j).length = fr.length:=by simp [tRow];omega
theorem tRow_zero : List.replicate fr.length 0 = tRow fr to h i 0:=by simp [tRow]
theorem tRow_set (hj : j < fr.length) (x : Int) : (tRow fr to h i j).set j x = (List.range j).map (tEnt fr to h i) ++ x :: List.replicate (fr.length - (j + 1)) 0:=by
  have e : fr.length - j = fr.length - (j + 1) + 1:=by omega
  unfold tRow
  rw [List.set_append_right _ _ (by simp),e]
  simp [List.replicate_succ]
theorem tRow_succ (hj : j < fr.length) : tRow fr to h i (j + 1) = (List.range j).map (tEnt fr to h i) ++ tEnt fr to h i j :: List.replicate (fr.length - (j + 1)) 0:=by
  simp [tRow,List.range_succ]
theorem tRow_no (hj : j < fr.length) (hc : ¬ to.getD i 0 = fr.getD j 0) : (tRow fr to h i j).set j (-1) = tRow fr to h i (j + 1):=by
  rw [tRow_set hj,tRow_succ hj,tEnt,if_neg hc]
theorem tRow_yes (hj : j < fr.length) (hc : to.getD i 0 = fr.getD j 0) : ((tRow fr to h i j).set j (-1)).set j (h i j) = tRow fr to h i (j + 1):=by
  rw [List.set_set,tRow_set hj,tRow_succ hj,tEnt,if_pos hc]
theorem tRows_succ : tRows fr to h i ++ [tRow fr to h i fr.length] = tRows fr to h (i + 1):=by
  simp [tRows,tRow,List.range_succ]
theorem tb_at {x : List Int} : (intsN (tRows fr to h i ++ [x]) m).at i = ints x:=by
  rw [intsN_at (by simp [tRows_len])]
  simp [List.getD_eq_getElem?_getD,tRows_len]
theorem tb_put {x r : List Int} : (intsN (tRows fr to h i ++ [x]) m).put i (ints r) = intsN (tRows fr to h i ++ [r]) m:=by
  rw [intsN_set (by simp [tRows_len]),List.set_append_right _ _ (by rw [tRows_len];omega),tRows_len,Nat.sub_self]
  rfl
theorem tb_new (hi : i < fr.length) : (intsN (tRows fr to h i) (fr.length - i)).put i (ints (List.replicate fr.length 0)) = intsN (tRows fr to h i ++ [tRow fr to h i 0]) (fr.length - (i + 1)):=by
  have e : fr.length - i = fr.length - (i + 1) + 1:=by omega
  have e2:=intsN_put (tRows fr to h i) (fr.length - (i + 1)) (List.replicate fr.length 0)
  rw [tRows_len] at e2
  rw [e,e2,tRow_zero]
end
theorem sp_Category_arrows_tb {ob : Int} {fr to id : List Int} : Spec Tryz.prog 69 [.bptr [] [.v (.int .i64 ob),ints fr,ints to,ints id,.v (.slice none 0 0)]] [] (iv fr.length) []:=by
  refine spec_of_V (E:=TE) 0 Tryz.func69 rfl (by simp [Tryz.f69]) fun X hn hX=>?_
  repeat' (first|(with_reducible first|refine V_seq ?_|refine V_skip ?_|refine V_ret ?_)|((with_reducible refine V_cond ?_);simp only [go_sem,simprocAttr])|((refine V_region (by rw [hn];rfl) ?_);intro K hK)|((first|with_reducible refine evOps_n ?_|((with_reducible apply evOps_g);rfl));intro K hK;simp (contextual:=true) only [go_sem,simprocAttr])|with_reducible refine evOps_nil ?_|((with_reducible refine hK _ ?_);clear hK K)|(with_reducible first|refine And.intro ?_ ?_|refine nxt_n ?_|refine nxt_r ?_|refine inR_mk ?_ ?_)|(refine fun (hc : (_ : Bool) = _)=>?_;try simp only [hcS] at hc))
  (first|refine ret_auto ?_|refine ret_auto' ?_);simp only [go_sem,simprocAttr,Tryz.f69]
theorem cal_Category_table : Callable Tryz.prog 115:=⟨_,Tryz.func115,rfl,rfl⟩
theorem sp_Category_table {ob : Int} {fr to id : List Int} {F : FuncId} {cp : LC} {h : Nat → Nat → Int} (hF : Callable Tryz.prog F) (hS : ∀ a b : Nat,a < fr.length → b < fr.length → to.getD a 0 = fr.getD b 0 → Spec Tryz.prog F ([iv a,iv b] ++ cp.l) [] (iv (h a b)) []) (hlen : fr.length ≤ 1048576) (hto : to.length = fr.length) (hob : 0 ≤ ob) : Spec Tryz.prog 115 [.ptr 0 0,.fn F cp.l] [(0,⟨1,.box [iv ob,.sl 1,.sl 2,.sl 3,.v (.slice none 0 0)]⟩),(1,⟨1,.arr (ints fr)⟩),(2,⟨1,.arr (ints to)⟩),(3,⟨1,.arr (ints id)⟩)] (.tup []) [(0,⟨1,.box [iv ob,.sl 1,.sl 2,.sl 3,.sl 4]⟩),(1,⟨1,.arr (ints fr)⟩),(2,⟨1,.arr (ints to)⟩),(3,⟨1,.arr (ints id)⟩),(4,⟨1,.arr (intss (tRows fr to h fr.length))⟩)]:=by
  refine spec_of_V (E:=TE) 4 Tryz.func115 rfl (by simp [Tryz.f115]) fun X hn hX=>?_
  repeat' (first|(with_reducible first|refine V_seq ?_|refine V_block ?_|refine V_skip ?_|refine V_ret ?_|refine V_exit ?_)|((with_reducible refine V_cond ?_);simp only [go_sem,simprocAttr])|((first|refine V_region (by rw [hn];rfl) ?_|refine V_drawn hmix (by rw [hn];rfl) ?_);intro K hK)|((first|with_reducible refine evOps_n ?_|((with_reducible apply evOps_g);rfl)|with_reducible refine evOpsD_n ?_|((with_reducible apply evOpsD_g);rfl));intro K hK;simp (contextual:=true) only [go_sem,simprocAttr])|with_reducible refine evOps_nil ?_|((with_reducible refine evOpsD_nil ?_ ?_);kernel_rfl)|((with_reducible refine hK _ ?_);clear hK K)|(with_reducible first|refine And.intro ?_ ?_|refine nxt_n ?_|refine nxt_r ?_|refine nxt_e ?_|refine blk_n ?_|refine blk_r ?_|refine blk_same ?_|refine blk_other (by decide) ?_|refine noG_n ?_|refine noG_r ?_|refine noG_e ?_|refine inR_mk ?_ ?_)|((with_reducible refine evCall_at 69 ?_);refine EvCall.mk (sp_Category_arrows_tb (ob:=ob) (fr:=fr) (to:=to) (id:=id)) cal_Category_arrows [] [0,1,2,3] (by simp [go_sem] <;> (repeat' (first|rfl|constructor))) (by simp [go_sem] <;> (repeat' (first|rfl|constructor))) ?_;all_goals try simp only [go_sem,simprocAttr])|(refine fun (hc : (_ : Bool) = _)=>?_;try simp only [hcS] at hc))
  all_goals try exact om_
  refine V_loopK (G:={i : Nat // i ≤ fr.length ∧ (True)}) (fun ⟨i,_⟩=>[(19,iv i)]) [0,1,4,18] (fun ⟨i,_⟩=>[(0,⟨1,.box [iv ob,.sl 1,.sl 2,.sl 3,.sl 4]⟩),(1,⟨1,.arr (ints fr)⟩),(2,⟨1,.arr (ints to)⟩),(3,⟨1,.arr (ints id)⟩),(4,⟨1,.arr (intsN (tRows fr to h i) (fr.length - i))⟩)]) [0,1,2,3,4] (fun zz=>fr.length - zz.1) ⟨0,Nat.zero_le _,by simp⟩ ?_ ?_
  · exact Imp.au hX
  rintro ⟨i,hii,hwi⟩
  simp only [go_sem,simprocAttr]
  have l1:=tRows_len (fr:=fr) (to:=to) (h:=h) (i:=i)
  have e3:=fun h0=>tb_new (fr:=fr) (to:=to) (h:=h) (i:=i) h0
  have e4:=tb_at (fr:=fr) (to:=to) (h:=h) (i:=i) (m:=fr.length - (i + 1)) (x:=tRow fr to h i 0)
  repeat' (first|(refine V_at 6 (Imp.refl _ _) ?_;rw [e3 (by omega)])|(with_reducible first|refine V_seq ?_|refine V_block ?_|refine V_skip ?_|refine V_ret ?_|refine V_exit ?_)|((with_reducible refine V_cond ?_);simp only [go_sem,simprocAttr])|((first|refine V_region (by rw [hn];rfl) ?_|refine V_drawn hmix (by rw [hn];rfl) ?_);intro K hK)|((first|with_reducible refine evOps_n ?_|((with_reducible apply evOps_g);rfl)|with_reducible refine evOpsD_n ?_|((with_reducible apply evOpsD_g);rfl));intro K hK;simp (contextual:=true) only [go_sem,simprocAttr])|with_reducible refine evOps_nil ?_|((with_reducible refine evOpsD_nil ?_ ?_);kernel_rfl)|((with_reducible refine hK _ ?_);clear hK K)|(with_reducible first|refine And.intro ?_ ?_|refine nxt_n ?_|refine nxt_r ?_|refine nxt_e ?_|refine blk_n ?_|refine blk_r ?_|refine blk_same ?_|refine blk_other (by decide) ?_|refine noG_n ?_|refine noG_r ?_|refine noG_e ?_|refine inR_mk ?_ ?_)|(rw [e4];simp only [go_sem,simprocAttr])|(refine fun (hc : (_ : Bool) = _)=>?_;try simp only [hcS] at hc))
  all_goals try exact om_
  · refine V_loopK (G:={j : Nat // j ≤ fr.length ∧ (True)}) (fun ⟨j,_⟩=>[(38,iv j)]) [0,1,4,5,18,19,37] (fun ⟨j,_⟩=>[(0,⟨1,.box [iv ob,.sl 1,.sl 2,.sl 3,.sl 4]⟩),(1,⟨1,.arr (ints fr)⟩),(2,⟨1,.arr (ints to)⟩),(3,⟨1,.arr (ints id)⟩),(4,⟨1,.arr (intsN (tRows fr to h i ++ [tRow fr to h i j]) (fr.length - (i + 1)))⟩)]) [0,1,2,3,4] (fun zz=>fr.length - zz.1) ⟨0,Nat.zero_le _,by first|trivial|simp⟩ ?_ ?_
    · exact Imp.au hX
    rintro ⟨j,hij,hwj⟩
    simp only [go_sem,simprocAttr]
    have l0:=tRow_len (fr:=fr) (to:=to) (h:=h) (i:=i) (j:=0) (Nat.zero_le _)
    have l2:=tRow_len (fr:=fr) (to:=to) (h:=h) (i:=i) (j:=j) (by omega)
    have e2:=tb_at (fr:=fr) (to:=to) (h:=h) (i:=i) (m:=fr.length - (i + 1)) (x:=tRow fr to h i j)
    repeat' (first|(refine V_at 9 (Imp.open_ 4 i _ [] (.inr ⟨rfl,rfl⟩) (by simp [go_sem,simprocAttr]) (by simp [go_sem,simprocAttr,l1];omega) rfl (by rw [e2];rfl) rfl) ?_;rw [e2])|refine V_at 12 (Imp.closeA 4 6 i _ _ rfl rfl (by decide) (by simp [go_sem,simprocAttr,l1];omega)) ?_|(with_reducible first|refine V_seq ?_|refine V_block ?_|refine V_skip ?_|refine V_ret ?_|refine V_exit ?_)|((with_reducible refine V_cond ?_);simp only [go_sem,simprocAttr])|((first|refine V_region (by rw [hn];rfl) ?_|refine V_drawn hmix (by rw [hn];rfl) ?_);intro K hK)|((first|with_reducible refine evOps_n ?_|((with_reducible apply evOps_g);rfl)|with_reducible refine evOpsD_n ?_|((with_reducible apply evOpsD_g);rfl));intro K hK;simp (contextual:=true) only [go_sem,simprocAttr])|with_reducible refine evOps_nil ?_|((with_reducible refine evOpsD_nil ?_ ?_);kernel_rfl)|((with_reducible refine hK _ ?_);clear hK K)|(with_reducible first|refine And.intro ?_ ?_|refine nxt_n ?_|refine nxt_r ?_|refine nxt_e ?_|refine blk_n ?_|refine blk_r ?_|refine blk_same ?_|refine blk_other (by decide) ?_|refine noG_n ?_|refine noG_r ?_|refine noG_e ?_|refine inR_mk ?_ ?_)|((with_reducible refine evCall_at F ?_);refine EvCall.lc rfl (hS i j (by omega) (by omega) (by assumption)) hF ?_;all_goals try simp only [go_sem,simprocAttr])|(refine fun (hc : (_ : Bool) = _)=>?_;try simp only [hcS] at hc))
    all_goals try exact om_
    · have e5:=tRow_yes (fr:=fr) (to:=to) (h:=h) (i:=i) (j:=j) (by omega) (by assumption)
      have e6:=tb_put (fr:=fr) (to:=to) (h:=h) (i:=i) (m:=fr.length - (i + 1)) (x:=tRow fr to h i j) (r:=tRow fr to h i (j + 1))
      refine ⟨⟨j + 1,by omega,(by trivial)⟩,by simp only;omega,Imp.auto hX (by simp only [go_sem,simprocAttr,e5,e6])⟩
    · have e5:=tRow_no (fr:=fr) (to:=to) (h:=h) (i:=i) (j:=j) (by omega) (by assumption)
      have e6:=tb_put (fr:=fr) (to:=to) (h:=h) (i:=i) (m:=fr.length - (i + 1)) (x:=tRow fr to h i j) (r:=tRow fr to h i (j + 1))
      refine ⟨⟨j + 1,by omega,(by trivial)⟩,by simp only;omega,Imp.auto hX (by simp only [go_sem,simprocAttr,e5,e6])⟩
    · have e : j = fr.length:=by omega
      subst e
      have e5:=tRows_succ (fr:=fr) (to:=to) (h:=h) (i:=i)
      refine ⟨⟨i + 1,by omega,(by trivial)⟩,by simp only;omega,Imp.auto hX (by simp only [go_sem,simprocAttr,e5])⟩
  · have e : i = fr.length:=by omega
    subst e
    (first|refine ret_auto ?_|refine ret_auto' ?_);simp only [go_sem,simprocAttr,Tryz.f115]
    simp [go_sem,simprocAttr]
end Go.Eng
end
section
namespace Go.Eng
open Go Go.Proofs Go.Cats
attribute [local go_sem] cO_zero colN_zero colN_len cA_zero
theorem cal_l02Hom : Callable Tryz.prog 186:=⟨_,Tryz.func186,rfl,rfl⟩
theorem sp_l02Hom {c : Cat} {x y : Int} (hl : c.fr.length ≤ 1048576) (ht : c.to.length = c.fr.length) : Spec Tryz.prog 186 [catV c,iv x,iv y] [] (.sl 0) [(0,⟨1,.arr (ints (c.hom x y))⟩)]:=by
  refine spec_of_V (E:=TE) 0 Tryz.func186 rfl (by simp [Tryz.f186]) fun X hn hX=>?_
  repeat' (first|(with_reducible first|refine V_seq ?_|refine V_block ?_|refine V_skip ?_|refine V_ret ?_|refine V_exit ?_)|((with_reducible refine V_cond ?_);simp only [go_sem,simprocAttr])|((refine V_region (by rw [hn];rfl) ?_);intro K hK)|((first|with_reducible refine evOps_n ?_|((with_reducible apply evOps_g);rfl));intro K hK;simp (contextual:=true) only [go_sem,simprocAttr])|with_reducible refine evOps_nil ?_|((with_reducible refine hK _ ?_);clear hK K)|(with_reducible first|refine And.intro ?_ ?_|refine nxt_n ?_|refine nxt_r ?_|refine nxt_e ?_|refine blk_n ?_|refine blk_r ?_|refine blk_same ?_|refine blk_other (by decide) ?_|refine noG_n ?_|refine noG_r ?_|refine noG_e ?_|refine inR_mk ?_ ?_)|(refine fun (hc : (_ : Bool) = _)=>?_;try simp only [hcS] at hc))
  all_goals try exact om_
  refine V_loopK (G:={i : Nat // i ≤ c.fr.length ∧ (True)}) (fun ⟨i,_⟩=>[(8,iv i),(7,.sl 1)]) [1,2,3,6] (fun ⟨i,_⟩=>[(1,⟨1,.arr (ints (c.homI x y i))⟩)]) [1] (fun zz=>c.fr.length - zz.1) ⟨0,Nat.zero_le _,by first|trivial|simp⟩ ?_ ?_
  · exact Imp.au hX
  rintro ⟨i,hii,hwi⟩
  simp only [go_sem,simprocAttr]
  have hlen:=c.homI_len x y i
  repeat' (first|(with_reducible first|refine V_seq ?_|refine V_block ?_|refine V_skip ?_|refine V_ret ?_|refine V_exit ?_)|((with_reducible refine V_cond ?_);simp only [go_sem,simprocAttr])|((refine V_region (by rw [hn];rfl) ?_);intro K hK)|((first|with_reducible refine evOps_n ?_|((with_reducible apply evOps_g);rfl));intro K hK;simp (contextual:=true) only [go_sem,simprocAttr])|with_reducible refine evOps_nil ?_|((with_reducible refine hK _ ?_);clear hK K)|(with_reducible first|refine And.intro ?_ ?_|refine nxt_n ?_|refine nxt_r ?_|refine nxt_e ?_|refine blk_n ?_|refine blk_r ?_|refine blk_same ?_|refine blk_other (by decide) ?_|refine noG_n ?_|refine noG_r ?_|refine noG_e ?_|refine inR_mk ?_ ?_)|(refine fun (hc : (_ : Bool) = _)=>?_;try simp only [hcS] at hc))
  all_goals try exact om_
  all_goals try (refine ⟨⟨i + 1,by omega,(by trivial)⟩,by simp only;omega,Imp.auto hX (by simp only [go_sem,simprocAttr,Cat.homI_succ, *])⟩)
  · (first|refine ret_auto ?_|refine ret_auto' ?_);simp only [go_sem,simprocAttr,Tryz.f186]
    have : i = c.fr.length:=by omega
    subst this
    simp [Cat.hom]
theorem cal_l02Fits : Callable Tryz.prog 85:=⟨_,Tryz.func85,rfl,rfl⟩
theorem sp_l02Fits {c : Cat} (hl : c.fr.length ≤ 1048576) : Spec Tryz.prog 85 [catV c] [] (bv (dec (c.ob ≤ 8 ∧ c.fr.length ≤ 40))) []:=by
  refine spec_of_V (E:=TE) 0 Tryz.func85 rfl (by simp [Tryz.f85]) fun X hn hX=>?_
  repeat' (first|(with_reducible first|refine V_seq ?_|refine V_skip ?_|refine V_ret ?_)|((with_reducible refine V_cond ?_);simp only [go_sem,simprocAttr])|((refine V_region (by rw [hn];rfl) ?_);intro K hK)|((first|with_reducible refine evOps_n ?_|((with_reducible apply evOps_g);rfl));intro K hK;simp (contextual:=true) only [go_sem,simprocAttr])|with_reducible refine evOps_nil ?_|((with_reducible refine hK _ ?_);clear hK K)|(with_reducible first|refine And.intro ?_ ?_|refine nxt_n ?_|refine nxt_r ?_|refine inR_mk ?_ ?_)|(refine fun (hc : (_ : Bool) = _)=>?_;try simp only [hcS] at hc))
  all_goals try exact om_
  · (first|refine ret_auto ?_|refine ret_auto' ?_);simp only [go_sem,simprocAttr,Tryz.f85]
    exact congrArg (fun b=>Sv.v (.bool b)) (by rw [dec_eq];simp [hc];omega)
  · (first|refine ret_auto ?_|refine ret_auto' ?_);simp only [go_sem,simprocAttr,Tryz.f85]
    exact bv_f fun h=>by omega
end Go.Eng
end
section
namespace Go.Eng
open Go Go.Proofs Go.Cats
attribute [local go_sem] colN_zero colN_len tb_zero tb_len
end Go.Eng
end
