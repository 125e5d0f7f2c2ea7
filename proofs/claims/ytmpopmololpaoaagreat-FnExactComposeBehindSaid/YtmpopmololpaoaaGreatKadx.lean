/- Several texts in one: R21, R22. -/
import Derived.Test.YtmpopmololpaoaaGreatKdx
import Derived.Test.YtmpopmololpaoaaGreatKacx
set_option linter.unusedSimpArgs false
set_option linter.unusedVariables false
set_option maxRecDepth 100000
set_option maxHeartbeats 16000000
section
namespace Go.Eng
open Go Go.Proofs Go.Cats
def btO (pl : Nat → Nat) (i : Nat) : List Int:=(List.range i).map fun i=>(pl i : Int)
def btK (pl : Nat → Nat) (A : List (List Int)) (cm : Nat → List Int) (a : Nat) : List Int:=(pl ((A.getD a []).getD 0 0).toNat : Int) :: (pl ((A.getD a []).getD 1 0).toNat : Int) :: cm a
def btA (pl : Nat → Nat) (A A2 : List (List Int)) (cm : Nat → List Int) (a : Nat) : List Int:=(List.range a).map fun a=>fnd A2 (btK pl A cm a)
section
variable {pl : Nat → Nat} {A A2 : List (List Int)} {cm : Nat → List Int} {i a n : Nat}
theorem btO_zero (pl) : btO pl 0 = []:=rfl
theorem btA_zero (pl A A2 cm) : btA pl A A2 cm 0 = []:=rfl
theorem btO_len : (btO pl i).length = i:=by unfold btO;rw [List.length_map,List.length_range]
theorem btA_len : (btA pl A A2 cm a).length = a:=by unfold btA;rw [List.length_map,List.length_range]
theorem btO_succ : btO pl (i + 1) = btO pl i ++ [(pl i : Int)]:=by unfold btO;rw [List.range_succ,List.map_append,List.map_singleton]
theorem btA_succ : btA pl A A2 cm (a + 1) = btA pl A A2 cm a ++ [fnd A2 (btK pl A cm a)]:=by unfold btA;rw [List.range_succ,List.map_append,List.map_singleton]
theorem btO_at (h : i < n) : (btO pl n).getD i 0 = (pl i : Int):=by
  unfold btO;rw [List.getD_eq_getElem?_getD,List.getElem?_map,List.getElem?_range h];rfl
end
structure BtW (L L2 : List Fun) (A A2 : List (List Int)) (pl : Nat → Nat) (cm : Nat → List Int) (img : Nat → Fun) : Prop where
  ob : ∀ i,i < L.length → ObOK L2 (img i).obs (img i).ars (pl i)
  key : KeyOK A2
  mem : ∀ a,a < A.length → btK pl A cm a ∈ A2
  cl : ∀ a,a < A.length → (cm a).length ≤ 60
  a40 : A.length ≤ 40
  l8 : L.length ≤ 8
  ar : ∀ a,a < A.length → 2 ≤ (A.getD a []).length ∧ (A.getD a []).length ≤ 60 ∧ (0 ≤ (A.getD a []).getD 0 0 ∧ ((A.getD a []).getD 0 0).toNat < L.length) ∧ 0 ≤ (A.getD a []).getD 1 0 ∧ ((A.getD a []).getD 1 0).toNat < L.length
attribute [local go_sem] List.set_cons_zero List.set_cons_succ btO_zero btA_zero
theorem cal_functorCategory_between : Callable Tryz.prog 77:=⟨_,Tryz.func77,rfl,rfl⟩
theorem sp_functorCategory_between {K1 K2 : Cat} {L L2 : List Fun} {A A2 : List (List Int)} {a7 : Dt} {pl : Nat → Nat} {cm : Nat → List Int} {img : Nat → Fun} {F1 F2 : FuncId} {cp1 cp2 : LC} (b1 : CatB K1) (b2 : CatB K2) (h : BtW L L2 A A2 pl cm img) (hF1 : Callable Tryz.prog F1) (hF2 : Callable Tryz.prog F2) (h1 : ∀ i,i < L.length → Spec Tryz.prog F1 ([.bptr [] (funD (L.getD i default))] ++ cp1.l) [] (.agg [iv (img i).src.ob,.sl 0,.sl 1,.sl 2,.sl 3,iv (img i).tgt.ob,.sl 4,.sl 5,.sl 6,.sl 7,.sl 8,.sl 9]) [(0,⟨1,.arr (ints (img i).src.fr)⟩),(1,⟨1,.arr (ints (img i).src.to)⟩),(2,⟨1,.arr (ints (img i).src.id)⟩),(3,⟨1,.arr (intss (img i).src.co)⟩),(4,⟨1,.arr (ints (img i).tgt.fr)⟩),(5,⟨1,.arr (ints (img i).tgt.to)⟩),(6,⟨1,.arr (ints (img i).tgt.id)⟩),(7,⟨1,.arr (intss (img i).tgt.co)⟩),(8,⟨1,.arr (ints (img i).obs)⟩),(9,⟨1,.arr (ints (img i).ars)⟩)]) (h2 : ∀ a,a < A.length → Spec Tryz.prog F2 ([.bor [] (ints ((A.getD a []).drop 2))] ++ cp2.l) [] (.sl 0) [(0,⟨1,.arr (ints (cm a))⟩)]) : Spec Tryz.prog 77 [.bptr [] [.v (.int .i64 K1.ob),ints K1.fr,ints K1.to,ints K1.id,intss K1.co,funsD L,intss A,a7],.bptr [] [.v (.int .i64 K2.ob),ints K2.fr,ints K2.to,ints K2.id,intss K2.co,funsD L2,intss A2,mapD Tryz.prog 9 2 A2.length (pm A2 A2.length)],.fn F1 cp1.l,.fn F2 cp2.l] [] (.agg [iv (⟨K1,K2,btO pl L.length,btA pl A A2 cm A.length⟩ : Fun).src.ob,.sl 0,.sl 1,.sl 2,.sl 3,iv (⟨K1,K2,btO pl L.length,btA pl A A2 cm A.length⟩ : Fun).tgt.ob,.sl 4,.sl 5,.sl 6,.sl 7,.sl 8,.sl 9]) [(0,⟨1,.arr (ints (⟨K1,K2,btO pl L.length,btA pl A A2 cm A.length⟩ : Fun).src.fr)⟩),(1,⟨1,.arr (ints (⟨K1,K2,btO pl L.length,btA pl A A2 cm A.length⟩ : Fun).src.to)⟩),(2,⟨1,.arr (ints (⟨K1,K2,btO pl L.length,btA pl A A2 cm A.length⟩ : Fun).src.id)⟩),(3,⟨1,.arr (intss (⟨K1,K2,btO pl L.length,btA pl A A2 cm A.length⟩ : Fun).src.co)⟩),(4,⟨1,.arr (ints (⟨K1,K2,btO pl L.length,btA pl A A2 cm A.length⟩ : Fun).tgt.fr)⟩),(5,⟨1,.arr (ints (⟨K1,K2,btO pl L.length,btA pl A A2 cm A.length⟩ : Fun).tgt.to)⟩),(6,⟨1,.arr (ints (⟨K1,K2,btO pl L.length,btA pl A A2 cm A.length⟩ : Fun).tgt.id)⟩),(7,⟨1,.arr (intss (⟨K1,K2,btO pl L.length,btA pl A A2 cm A.length⟩ : Fun).tgt.co)⟩),(8,⟨1,.arr (ints (⟨K1,K2,btO pl L.length,btA pl A A2 cm A.length⟩ : Fun).obs)⟩),(9,⟨1,.arr (ints (⟨K1,K2,btO pl L.length,btA pl A A2 cm A.length⟩ : Fun).ars)⟩)]:=by
  refine spec_of_V (E:=TE) 0 Tryz.func77 rfl (by simp [Tryz.f77]) fun X hn hX=>?_
  obtain ⟨hob,hkey,hmem,hcl,h40,hl8,har⟩:=h
  have hpart : ∀ i,i < L.length → (funsD L).part (i * 12) 12 = funD (L.getD i default):=fun i hi=>funs_part L i hi
  have hfu:=sp_functor (c:=K1) (d:=K2) (p:=btO pl L.length) (q:=btA pl A A2 cm A.length) b1 b2 (by rw [btO_len];omega) (by rw [btA_len];omega)
  repeat' (first|(with_reducible first|refine V_seq ?_|refine V_block ?_|refine V_skip ?_|refine V_ret ?_|refine V_exit ?_)|((with_reducible refine V_cond ?_);simp only [go_sem,simprocAttr])|((first|refine V_region (by rw [hn];rfl) ?_|refine V_drawn hmix (by rw [hn];rfl) ?_);intro K hK)|((first|with_reducible refine evOps_n ?_|((with_reducible apply evOps_g);rfl)|with_reducible refine evOpsD_n ?_|((with_reducible apply evOpsD_g);rfl));intro K hK;simp (contextual:=true) only [go_sem,simprocAttr])|with_reducible refine evOps_nil ?_|((with_reducible refine evOpsD_nil ?_ ?_);kernel_rfl)|((with_reducible refine hK _ ?_);clear hK K)|(with_reducible first|refine And.intro ?_ ?_|refine nxt_n ?_|refine nxt_r ?_|refine nxt_e ?_|refine blk_n ?_|refine blk_r ?_|refine blk_same ?_|refine blk_other (by decide) ?_|refine noG_n ?_|refine noG_r ?_|refine noG_e ?_|refine inR_mk ?_ ?_)|(refine fun (hc : (_ : Bool) = _)=>?_;try simp only [hcS] at hc))
  all_goals try (first|(with_reducible assumption)|((try simp only [Cat.F,Cat.T,Cat.I,Cat.C,Fun.O,Fun.A,Cat.Entry,Int.toNat_natCast] at *);omega))
  refine V_loopK (G:={i : Nat // i ≤ L.length ∧ (True)}) (fun ⟨i,_⟩=>[(22,iv i),(9,.sl 1),(10,.sl 2)]) [0,1,2,3,8,21] (fun ⟨i,_⟩=>[(1,⟨1,.arr (ints (btO pl i))⟩),(2,⟨1,.arr (ints [])⟩)]) [1,2] (fun zz=>L.length - zz.1) ⟨0,Nat.zero_le _,by first|trivial|simp⟩ ?_ ?_
  · exact Imp.auto hX (by simp [go_sem,simprocAttr])
  rintro ⟨i,hii,hwi⟩
  simp only [go_sem,simprocAttr]
  have hol:=btO_len (pl:=pl) (i:=i)
  rcases Nat.lt_or_ge i L.length with hli | hgi
  · have hpi:=hpart i hli
    have h1i:=h1 i hli
    have e1:=btO_succ (pl:=pl) (i:=i)
    have ho:=sp_functorCategory_object (a0:=.v (.int .i64 K2.ob)) (a1:=ints K2.fr) (a2:=ints K2.to) (a3:=ints K2.id) (a4:=intss K2.co) (a6:=intss A2) (a7:=mapD Tryz.prog 9 2 A2.length (pm A2 A2.length)) (hob i hli)
    repeat' (first|(rw [hpi])|(with_reducible first|refine V_seq ?_|refine V_block ?_|refine V_skip ?_|refine V_ret ?_|refine V_exit ?_)|((with_reducible refine V_cond ?_);simp only [go_sem,simprocAttr])|((first|refine V_region (by rw [hn];rfl) ?_|refine V_drawn hmix (by rw [hn];rfl) ?_);intro K hK)|((first|with_reducible refine evOps_n ?_|((with_reducible apply evOps_g);rfl)|with_reducible refine evOpsD_n ?_|((with_reducible apply evOpsD_g);rfl));intro K hK;simp (contextual:=true) only [go_sem,simprocAttr])|with_reducible refine evOps_nil ?_|((with_reducible refine evOpsD_nil ?_ ?_);kernel_rfl)|((with_reducible refine hK _ ?_);clear hK K)|(with_reducible first|refine And.intro ?_ ?_|refine nxt_n ?_|refine nxt_r ?_|refine nxt_e ?_|refine blk_n ?_|refine blk_r ?_|refine blk_same ?_|refine blk_other (by decide) ?_|refine noG_n ?_|refine noG_r ?_|refine noG_e ?_|refine inR_mk ?_ ?_)|((with_reducible refine evCall_at 67 ?_);refine EvCall.mk (ho) cal_functorCategory_object [] [11,12] (by simp [go_sem] <;> (repeat' (first|rfl|constructor))) (by simp [go_sem] <;> (repeat' (first|rfl|constructor))) ?_;all_goals try simp only [go_sem,simprocAttr])|((with_reducible refine evCall_at F1 ?_);refine EvCall.mk h1i hF1 [(0,3),(1,4),(2,5),(3,6),(4,7),(5,8),(6,9),(7,10),(8,11),(9,12)] [] (by simp [go_sem] <;> (repeat' (first|rfl|constructor))) (by simp [go_sem] <;> (repeat' (first|rfl|constructor))) ?_;all_goals try simp only [go_sem,simprocAttr])|(refine fun (hc : (_ : Bool) = _)=>?_;try simp only [hcS] at hc))
    all_goals try (first|(with_reducible assumption)|((try simp only [Cat.F,Cat.T,Cat.I,Cat.C,Fun.O,Fun.A,Cat.Entry,Int.toNat_natCast] at *);omega))
    · refine ⟨⟨i + 1,by omega,(by trivial)⟩,by simp only;omega,Imp.auto hX (by simp only [go_sem,simprocAttr,e1])⟩
  · have ei : i = L.length:=by omega
    subst ei
    repeat' (first|(with_reducible first|refine V_seq ?_|refine V_block ?_|refine V_skip ?_|refine V_ret ?_|refine V_exit ?_)|((with_reducible refine V_cond ?_);simp only [go_sem,simprocAttr])|((first|refine V_region (by rw [hn];rfl) ?_|refine V_drawn hmix (by rw [hn];rfl) ?_);intro K hK)|((first|with_reducible refine evOps_n ?_|((with_reducible apply evOps_g);rfl)|with_reducible refine evOpsD_n ?_|((with_reducible apply evOpsD_g);rfl));intro K hK;simp (contextual:=true) only [go_sem,simprocAttr])|with_reducible refine evOps_nil ?_|((with_reducible refine evOpsD_nil ?_ ?_);kernel_rfl)|((with_reducible refine hK _ ?_);clear hK K)|(with_reducible first|refine And.intro ?_ ?_|refine nxt_n ?_|refine nxt_r ?_|refine nxt_e ?_|refine blk_n ?_|refine blk_r ?_|refine blk_same ?_|refine blk_other (by decide) ?_|refine noG_n ?_|refine noG_r ?_|refine noG_e ?_|refine inR_mk ?_ ?_)|(refine fun (hc : (_ : Bool) = _)=>?_;try simp only [hcS] at hc))
    all_goals try (first|(with_reducible assumption)|((try simp only [Cat.F,Cat.T,Cat.I,Cat.C,Fun.O,Fun.A,Cat.Entry,Int.toNat_natCast] at *);omega))
    refine V_loopK (G:={a : Nat // a ≤ A.length ∧ (True)}) (fun ⟨a,_⟩=>[(48,iv a),(9,.sl 1),(10,.sl 2)]) [0,1,3,8,46,47] (fun ⟨a,_⟩=>[(1,⟨1,.arr (ints (btO pl L.length))⟩),(2,⟨1,.arr (ints (btA pl A A2 cm a))⟩)]) [1,2] (fun zz=>A.length - zz.1) ⟨0,Nat.zero_le _,by first|trivial|simp⟩ ?_ ?_
    · exact Imp.auto hX (by simp [go_sem,simprocAttr])
    rintro ⟨a,hia,hwa⟩
    simp only [go_sem,simprocAttr]
    have hal:=btA_len (pl:=pl) (A:=A) (A2:=A2) (cm:=cm) (a:=a)
    rcases Nat.lt_or_ge a A.length with hla | hga
    · obtain ⟨a1,a2,a3,a4⟩:=har a hla
      have o1:=btO_at (pl:=pl) a3.2
      have o2:=btO_at (pl:=pl) a4.2
      have h2a:=h2 a hla
      have ha:=sp_functorCategory_arrow (a0:=.v (.int .i64 K2.ob)) (a1:=ints K2.fr) (a2:=ints K2.to) (a3:=ints K2.id) (a4:=intss K2.co) (a5:=funsD L2) (a6:=intss A2) hkey (hmem a hla) (hcl a hla)
      have e2 : btA pl A A2 cm (a + 1) = btA pl A A2 cm a ++ [fnd A2 ((pl ((A.getD a []).getD 0 0).toNat : Int) :: (pl ((A.getD a []).getD 1 0).toNat : Int) :: cm a)]:=btA_succ
      repeat' (first|(rw [o1];simp only [go_sem,simprocAttr])|(rw [o2];simp only [go_sem,simprocAttr])|(with_reducible first|refine V_seq ?_|refine V_block ?_|refine V_skip ?_|refine V_ret ?_|refine V_exit ?_)|((with_reducible refine V_cond ?_);simp only [go_sem,simprocAttr])|((first|refine V_region (by rw [hn];rfl) ?_|refine V_drawn hmix (by rw [hn];rfl) ?_);intro K hK)|((first|with_reducible refine evOps_n ?_|((with_reducible apply evOps_g);rfl)|with_reducible refine evOpsD_n ?_|((with_reducible apply evOpsD_g);rfl));intro K hK;simp (contextual:=true) only [go_sem,simprocAttr])|with_reducible refine evOps_nil ?_|((with_reducible refine evOpsD_nil ?_ ?_);kernel_rfl)|((with_reducible refine hK _ ?_);clear hK K)|(with_reducible first|refine And.intro ?_ ?_|refine nxt_n ?_|refine nxt_r ?_|refine nxt_e ?_|refine blk_n ?_|refine blk_r ?_|refine blk_same ?_|refine blk_other (by decide) ?_|refine noG_n ?_|refine noG_r ?_|refine noG_e ?_|refine inR_mk ?_ ?_)|((with_reducible refine evCall_at 70 ?_);refine EvCall.mk (ha) cal_functorCategory_arrow [] [3] (by simp [go_sem] <;> (repeat' (first|rfl|constructor))) (by simp [go_sem] <;> (repeat' (first|rfl|constructor))) ?_;all_goals try simp only [go_sem,simprocAttr])|((with_reducible refine evCall_at F2 ?_);refine EvCall.mk h2a hF2 [(0,3)] [] (by simp [go_sem] <;> (repeat' (first|rfl|constructor))) (by simp [go_sem] <;> (repeat' (first|rfl|constructor))) ?_;all_goals try simp only [go_sem,simprocAttr])|(refine hook_drop (n:=2) rfl rfl (by simp [go_sem,simprocAttr]) rfl (by omega) ?_;simp only [go_sem,simprocAttr])|(refine fun (hc : (_ : Bool) = _)=>?_;try simp only [hcS] at hc))
      all_goals try (first|(with_reducible assumption)|((try simp only [Cat.F,Cat.T,Cat.I,Cat.C,Fun.O,Fun.A,Cat.Entry,Int.toNat_natCast] at *);omega))
      · refine ⟨⟨a + 1,by omega,(by trivial)⟩,by simp only;omega,Imp.auto hX (by simp only [go_sem,simprocAttr,e2])⟩
    · have ea : a = A.length:=by omega
      subst ea
      repeat' (first|(with_reducible first|refine V_seq ?_|refine V_block ?_|refine V_skip ?_|refine V_ret ?_|refine V_exit ?_)|((with_reducible refine V_cond ?_);simp only [go_sem,simprocAttr])|((first|refine V_region (by rw [hn];rfl) ?_|refine V_drawn hmix (by rw [hn];rfl) ?_);intro K hK)|((first|with_reducible refine evOps_n ?_|((with_reducible apply evOps_g);rfl)|with_reducible refine evOpsD_n ?_|((with_reducible apply evOpsD_g);rfl));intro K hK;simp (contextual:=true) only [go_sem,simprocAttr])|with_reducible refine evOps_nil ?_|((with_reducible refine evOpsD_nil ?_ ?_);kernel_rfl)|((with_reducible refine hK _ ?_);clear hK K)|(with_reducible first|refine And.intro ?_ ?_|refine nxt_n ?_|refine nxt_r ?_|refine nxt_e ?_|refine blk_n ?_|refine blk_r ?_|refine blk_same ?_|refine blk_other (by decide) ?_|refine noG_n ?_|refine noG_r ?_|refine noG_e ?_|refine inR_mk ?_ ?_)|((with_reducible refine evCall_at 63 ?_);refine EvCall.mk (hfu) cal_functor [(0,3),(1,4),(2,5),(3,6),(4,7),(5,8),(6,9),(7,10),(8,11),(9,12)] [1,2] (by simp [go_sem] <;> (repeat' (first|rfl|constructor))) (by simp [go_sem] <;> (repeat' (first|rfl|constructor))) ?_;all_goals try simp only [go_sem,simprocAttr])|(refine fun (hc : (_ : Bool) = _)=>?_;try simp only [hcS] at hc))
      all_goals try (first|(with_reducible assumption)|((try simp only [Cat.F,Cat.T,Cat.I,Cat.C,Fun.O,Fun.A,Cat.Entry,Int.toNat_natCast] at *);omega))
      · (first|refine ret_auto ?_|refine ret_auto' ?_);simp only [go_sem,simprocAttr,Tryz.f77]
end Go.Eng
end
section
namespace Go.Eng
open Go Go.Proofs Go.Cats
theorem fit_A {f : Fun} (hf : Fits f) {a : Int} (h0 : 0 ≤ a) (h1 : a < f.src.fr.length) : 0 ≤ f.A a ∧ f.A a < f.tgt.fr.length ∧ f.tgt.F (f.A a) = f.O (f.src.F a) ∧ f.tgt.T (f.A a) = f.O (f.src.T a):=by
  have l:=hf.arl
  have w:=hf.arw a.toNat (by omega)
  have e:=hf.endf a.toNat (by omega)
  rw [Int.toNat_of_nonneg h0] at e
  exact ⟨w.1,w.2,e.1,e.2⟩
theorem thn_O {f g : Fun} (hf : Fits f) {x : Int} (h0 : 0 ≤ x) (h1 : x < f.src.ob) : (thF f g).O x = g.O (f.O x):=by
  have l:=hf.obl
  exact thn_at (by omega)
theorem thn_A {f g : Fun} (hf : Fits f) {a : Int} (h0 : 0 ≤ a) (h1 : a < f.src.fr.length) : (thF f g).A a = g.A (f.A a):=by
  have l:=hf.arl
  exact thn_at (by omega)
theorem comp_rng {c : Cat} (s : Shape c) {a b : Int} (a0 : 0 ≤ a) (a1 : a < c.fr.length) (b0 : 0 ≤ b) (b1 : b < c.fr.length) (e : c.T a = c.F b) : 0 ≤ c.C a b ∧ c.C a b < c.fr.length:=by
  have:=(s.coe a.toNat (by omega)).2 b.toNat (by omega)
  unfold Cat.Entry at this
  rw [Int.toNat_of_nonneg a0,Int.toNat_of_nonneg b0] at this
  rcases this with ⟨_,h,_⟩|⟨h,_⟩
  · exact h
  · exact absurd e h
theorem fit_C {f : Fun} (sc : Shape f.src) (hf : Fits f) {a b : Int} (a0 : 0 ≤ a) (a1 : a < f.src.fr.length) (b0 : 0 ≤ b) (b1 : b < f.src.fr.length) (e : f.src.T a = f.src.F b) : f.A (f.src.C a b) = f.tgt.C (f.A a) (f.A b):=by
  have h:=comp_rng sc a0 a1 b0 b1 e
  have:=hf.comp a.toNat b.toNat (by omega) (by omega)
  rw [Int.toNat_of_nonneg a0,Int.toNat_of_nonneg b0] at this
  exact this h.1
theorem thF_fits {f g : Fun} (sc : Shape f.src) (st : Shape f.tgt) (hf : Fits f) (hg : Fits g) (e : g.src = f.tgt) : Fits (thF f g):=by
  have sg : Shape g.src:=by rw [e];exact st
  have fo:=hf.obl
  have fa:=hf.arl
  have ga:=hg.arl
  have go:=hg.obl
  rw [e] at ga go
  have c0:=sc.ob0
  refine ⟨?_,?_,?_,?_,fun a ha=>?_,fun x hx=>?_,fun a b ha hb h0=>?_⟩
  · show ((thn f.obs g.obs).length : Int) = f.src.ob;rw [thn_len];exact fo
  · show (thn f.ars g.ars).length = f.src.fr.length;rw [thn_len];exact fa
  · exact thn_in (by rw [go];exact hf.obw) hg.obw
  · exact thn_in (by rw [ga];exact hf.arw) hg.arw
  · have ha : a < f.src.fr.length:=by have : a < (thn f.ars g.ars).length:=ha;rw [thn_len] at this;omega
    have f1:=sc.frw a ha
    have f2:=sc.tow a (by rw [sc.tol];exact ha)
    have h1:=fit_A hf (a:=(a : Int)) (by omega) (by omega)
    have h2:=fit_A hg (a:=f.A (a : Int)) h1.1 (by rw [e];exact h1.2.1)
    have e1 : (thF f g).ars.getD a 0 = g.A (f.A (a : Int)):=thn_at (by omega)
    rw [e1]
    have e2 : (thF f g).O ((thF f g).src.F (a : Int)) = g.O (f.O (f.src.F (a : Int))):=thn_O hf (x:=f.src.F (a : Int)) (by simpa [Cat.F] using f1.1) (by simpa [Cat.F] using f1.2)
    have e3 : (thF f g).O ((thF f g).src.T (a : Int)) = g.O (f.O (f.src.T (a : Int))):=thn_O hf (x:=f.src.T (a : Int)) (by simpa [Cat.T] using f2.1) (by simpa [Cat.T] using f2.2)
    rw [e2,e3]
    have e4:=h2.2.2.1
    have e5:=h2.2.2.2
    rw [e,h1.2.2.1] at e4
    rw [e,h1.2.2.2] at e5
    exact ⟨e4,e5⟩
  · have hx : x < f.src.id.length:=hx
    have il:=sc.idl
    have iw:=sc.idw x hx
    have u1:=hf.unit x hx
    have ow:=hf.obw x (by omega)
    have tl:=st.idl
    have u2 := hg.unit (f.O (x : Int)).toNat (by rw [e]; have : f.O (x : Int) = f.obs.getD x 0 := by simp [Fun.O]
                                                 omega)
    have ox : 0 ≤ f.O (x : Int) := by have : f.O (x : Int) = f.obs.getD x 0 := by simp [Fun.O]
                                      omega
    rw [e,Int.toNat_of_nonneg ox] at u2
    show (thF f g).A (f.src.id.getD x 0) = g.tgt.I ((thF f g).O (x : Int))
    rw [thn_A hf iw.1 iw.2,u1,thn_O hf (by omega) (by omega)]
    exact u2
  · have ha : a < f.src.fr.length:=ha
    have hb : b < f.src.fr.length:=hb
    have h0 : 0 ≤ f.src.C a b:=h0
    have hT : f.src.T a = f.src.F b:=by
      have:=sc.neg ha hb
      exact Classical.byContradiction fun q=>by have:=this.2 q;omega
    have hc:=comp_rng sc (a:=a) (b:=b) (by omega) (by omega) (by omega) (by omega) hT
    have h1:=fit_A hf (a:=(a : Int)) (by omega) (by omega)
    have h2:=fit_A hf (a:=(b : Int)) (by omega) (by omega)
    show (thF f g).A (f.src.C a b) = g.tgt.C ((thF f g).A a) ((thF f g).A b)
    rw [thn_A hf hc.1 hc.2,thn_A hf (by omega) (by omega),thn_A hf (by omega) (by omega),fit_C sc hf (by omega) (by omega) (by omega) (by omega) hT]
    have:=fit_C sg hg (a:=f.A (a : Int)) (b:=f.A (b : Int)) h1.1 (by rw [e];exact h1.2.1) h2.1 (by rw [e];exact h2.2.1) (by rw [e,h1.2.2.2,h2.2.2.1,hT])
    rw [e] at this
    exact this
theorem nat_behind {f h g : Fun} {t : List Int} (p : Par f h) (hg : Fits g) (e : g.src = f.tgt) (ht : t ∈ natA f h) : thn t g.ars ∈ natA (thF f g) (thF h g):=by
  obtain ⟨t1,t2⟩:=mem_natA.1 ht
  have sc:=p.src.toShape
  have sg : Shape g.src:=by rw [e];exact p.tgt.toShape
  have fo:=p.fit.obl
  have fa:=p.fit.arl
  have ho:=p.fit2.obl
  have ha2:=p.fit2.arl
  rw [p.es] at ho ha2
  have ga:=hg.arl
  have go:=hg.obl
  rw [e] at ga go
  have c0:=sc.ob0
  have hom : ∀ {x y a : Int},a ∈ f.tgt.hom x y → g.A a ∈ g.tgt.hom (g.O x) (g.O y):=fun {x y a} hh=>by
    obtain ⟨q0,q1,q2,q3⟩:=Cat.mem_hom.1 hh
    have r:=fit_A hg (a:=a) q0 (by rw [e];exact q1)
    rw [e,q2,q3] at r
    exact Cat.mem_hom.2 r
  refine mem_natA.2 ⟨by rw [thn_len];exact t1,fun x hx=>?_,fun a ha=>?_⟩
  · rw [thn_len] at hx
    rw [thn_at hx]
    have e1 : (thF f g).obs.getD x 0 = g.obs.getD (f.obs.getD x 0).toNat 0:=thn_at (by omega)
    have e2 : (thF h g).obs.getD x 0 = g.obs.getD (h.obs.getD x 0).toNat 0:=thn_at (by omega)
    rw [e1,e2]
    exact hom (t2.end_ x hx)
  · have ha : a < f.src.fr.length:=ha
    have f1:=sc.frw a ha
    have f2:=sc.tow a (by rw [sc.tol];exact ha)
    have hs:=t2.sq a ha
    unfold SqP at hs ⊢
    have m1:=fit_hom sc p.fit ha
    have m2:=fit_hom (f:=h) (by rw [p.es];exact sc) p.fit2 (a:=a) (by rw [p.es];exact ha)
    rw [p.et,p.es] at m2
    have n1:=t2.end_ (f.src.fr.getD a 0).toNat (by omega)
    have n2:=t2.end_ (f.src.to.getD a 0).toNat (by omega)
    obtain ⟨a0,a1,a2,a3⟩:=Cat.mem_hom.1 m1
    obtain ⟨b0,b1,b2,b3⟩:=Cat.mem_hom.1 m2
    obtain ⟨u0,u1,u2,u3⟩:=Cat.mem_hom.1 n1
    obtain ⟨v0,v1,v2,v3⟩:=Cat.mem_hom.1 n2
    have q1:=fit_C sg hg (a:=f.ars.getD a 0) (b:=t.getD (f.src.to.getD a 0).toNat 0) a0 (by rw [e];exact a1) v0 (by rw [e];exact v1) (by rw [e,a3,v2])
    have q2:=fit_C sg hg (a:=t.getD (f.src.fr.getD a 0).toNat 0) (b:=h.ars.getD a 0) u0 (by rw [e];exact u1) b0 (by rw [e];exact b1) (by rw [e,u3,b2])
    rw [e] at q1 q2
    rw [hs] at q1
    have e1 : (thF f g).ars.getD a 0 = g.A (f.ars.getD a 0):=thn_at (by omega)
    have e2 : (thF h g).ars.getD a 0 = g.A (h.ars.getD a 0):=thn_at (by omega)
    show g.tgt.C ((thF f g).ars.getD a 0) ((thn t g.ars).getD (f.src.to.getD a 0).toNat 0) = g.tgt.C ((thn t g.ars).getD (f.src.fr.getD a 0).toNat 0) ((thF h g).ars.getD a 0)
    rw [e1,e2,thn_at (by omega),thn_at (by omega)]
    exact q1.symm.trans q2
end Go.Eng
end
