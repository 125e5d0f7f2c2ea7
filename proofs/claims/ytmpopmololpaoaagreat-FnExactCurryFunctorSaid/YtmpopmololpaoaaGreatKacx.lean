/- Several texts in one: R18, R19. -/
import Derived.Test.YtmpopmololpaoaaGreatKabx
set_option linter.unusedSimpArgs false
set_option linter.unusedVariables false
set_option maxRecDepth 100000
set_option maxHeartbeats 16000000
section
namespace Go.Eng
open Go Go.Proofs Go.Cats
def kO (p q : List Int) : Lit:=.string (keyS [p,q]).data.toList
def pmO (L : List Fun) : Nat → DataW Unit
  | 0=>.map []
  | i + 1=>(pmO L i).put (kO (L.getD i default).obs (L.getD i default).ars) (.lit (.int .i64 i))
theorem pmO_map (L : List Fun) : ∀ i,Go.Maps.IsMap (pmO L i)
  | 0=>Go.Maps.isMap_empty
  | i + 1=>(pmO_map L i).put _ _
theorem pmO_zero (L : List Fun) : pmO L 0 = .map []:=rfl
theorem kO_inj {p q p' q' : List Int} (hl : p.length = p'.length) (h1 : ∀ x ∈ p,0 ≤ x ∧ x < 256) (h2 : ∀ x ∈ q,0 ≤ x ∧ x < 256) (h3 : ∀ x ∈ p',0 ≤ x ∧ x < 256) (h4 : ∀ x ∈ q',0 ≤ x ∧ x < 256) (h : kO p q = kO p' q') : p = p' ∧ q = q':=by
  unfold kO at h
  simp only [Lit.string.injEq,keyS,strOfNums_data,keyL,List.flatMap_cons,List.flatMap_nil,List.append_nil] at h
  have hb : ∀ {a b : List Int},(∀ x ∈ a,0 ≤ x ∧ x < 256) → (∀ x ∈ b,0 ≤ x ∧ x < 256) → ∀ x ∈ a ++ [255] ++ (b ++ [255]),0 ≤ x ∧ x < 256:=fun ha hb x hx=>by
    rcases List.mem_append.1 hx with hx | hx
    · rcases List.mem_append.1 hx with hx | hx
      · exact ha x hx
      · simp at hx;omega
    · rcases List.mem_append.1 hx with hx | hx
      · exact hb x hx
      · simp at hx;omega
  have h5 : p ++ [255] ++ (q ++ [255]) = p' ++ [255] ++ (q' ++ [255]):=map_ofNat_inj (hb h1 h2) (hb h3 h4) h
  have h6:=List.append_inj h5 (by simp [hl])
  exact ⟨List.append_cancel_right h6.1,List.append_cancel_right h6.2⟩
theorem kO_ne {p q : List Int} {s : ByteArray} (h : ¬ s = keyS [p,q]) : kO p q ≠ .string s.data.toList:=fun e=>by
  unfold kO at e
  injection e with e
  exact h (Go.WideShapes.bytes_inj e.symm)
structure ObOK (L : List Fun) (p q : List Int) (i : Nat) : Prop where
  n8 : L.length ≤ 8
  lt : i < L.length
  ol : ∀ j,j < L.length → (L.getD j default).obs.length = p.length
  ob : ∀ j,j < L.length → ∀ x ∈ (L.getD j default).obs,0 ≤ x ∧ x < 256
  ar : ∀ j,j < L.length → ∀ x ∈ (L.getD j default).ars,0 ≤ x ∧ x < 256
  al : ∀ j,j < L.length → (L.getD j default).ars.length ≤ 64
  pl : p.length ≤ 64
  po : (L.getD i default).obs = p
  qo : (L.getD i default).ars = q
  un : ∀ j,j < L.length → (L.getD j default).obs = p → (L.getD j default).ars = q → j = i
theorem pmO_at {L : List Fun} {p q : List Int} {i : Nat} (h : ObOK L p q i) (z : DataW Unit) : ∀ {j : Nat},i < j → j ≤ L.length → (pmO L j).atKey (kO p q) z = .lit (.int .i64 i)
  | 0,hj,_=>by omega
  | j + 1,hij,hj=>by
    by_cases e : j = i
    · subst e
      rw [pmO,h.po,h.qo]
      exact Go.Maps.atKey_put_same (pmO_map L j) (show Go.WideAt.IsKeyLit (.string _) by simp [Go.WideAt.IsKeyLit]) _ _
    · rw [pmO,Go.Maps.atKey_put_other,pmO_at h z (by omega) (by omega)]
      intro hh
      have h1:=h.ob i h.lt
      have h2:=h.ar i h.lt
      rw [h.po] at h1
      rw [h.qo] at h2
      obtain ⟨e1,e2⟩:=kO_inj (h.ol j (by omega)).symm h1 h2 (h.ob j (by omega)) (h.ar j (by omega)) hh
      exact e (h.un j (by omega) e1.symm e2.symm)
theorem key2_size {p q : List Int} (hp : p.length ≤ 64) (hq : q.length ≤ 64) : (keyS [p,q]).size ≤ maxLen:=by
  unfold keyS
  rw [strOfNums_size]
  simp only [keyL,List.flatMap_cons,List.flatMap_nil,List.length_append,List.length_cons,List.length_nil]
  unfold maxLen;omega
theorem sp_key_two {p q : List Int} (hp : p.length ≤ 64) (hq : q.length ≤ 64) (h1 : ∀ x ∈ p,0 ≤ x ∧ x < 256) (h2 : ∀ x ∈ q,0 ≤ x ∧ x < 256) : Spec Tryz.prog 124 [.bor [] (intss [p,q])] [] (.v (.string (keyS [p,q]))) []:=by
  refine sp_key (ls:=[p,q]) (by simp) (fun i hi=>?_) fun i j hi hj=>?_
  · have hi : i < 2:=hi
    rcases i with _ | _ | i
    · exact hp
    · exact hq
    · omega
  · have hi : i < 2:=hi
    rcases i with _ | _ | i
    · exact h1 _ (mem_getI hj)
    · exact h2 _ (mem_getI hj)
    · omega
attribute [local go_sem] List.set_cons_zero List.set_cons_succ pmO_zero
theorem cal_functorCategory_object : Callable Tryz.prog 67:=⟨_,Tryz.func67,rfl,rfl⟩
theorem sp_functorCategory_object {a0 a1 a2 a3 a4 a6 a7 : Dt} {L : List Fun} {p q : List Int} {i : Nat} (h : ObOK L p q i) : Spec Tryz.prog 67 [.bptr [] [a0,a1,a2,a3,a4,funsD L,a6,a7],.bor [] (ints p),.bor [] (ints q)] [] (iv i) []:=by
  refine spec_of_V (E:=TE) 0 Tryz.func67 rfl (by simp [Tryz.f67]) fun X hn hX=>?_
  have hn8:=h.n8
  have hpart : ∀ i,i < L.length → (funsD L).part (i * 12) 12 = [.v (.int .i64 (L.getD i default).src.ob),ints (L.getD i default).src.fr,ints (L.getD i default).src.to,ints (L.getD i default).src.id,intss (L.getD i default).src.co,.v (.int .i64 (L.getD i default).tgt.ob),ints (L.getD i default).tgt.fr,ints (L.getD i default).tgt.to,ints (L.getD i default).tgt.id,intss (L.getD i default).tgt.co,ints (L.getD i default).obs,ints (L.getD i default).ars]:=fun i hi=>funs_part L i hi
  have hat:=pmO_at h (.lit (.int .i64 0)) h.lt (Nat.le_refl _)
  have hpp:=h.ob i h.lt
  have hqq:=h.ar i h.lt
  have hql:=h.al i h.lt
  rw [h.po] at hpp
  rw [h.qo] at hqq hql
  have hpq:=sp_key_two h.pl hql hpp hqq
  have hks:=key2_size h.pl hql
  repeat' (first|(with_reducible first|refine V_seq ?_|refine V_block ?_|refine V_skip ?_|refine V_ret ?_|refine V_exit ?_)|((with_reducible refine V_cond ?_);simp only [go_sem,simprocAttr])|((refine V_region (by rw [hn];rfl) ?_);intro K hK)|((first|with_reducible refine evOps_n ?_|((with_reducible apply evOps_g);rfl));intro K hK;simp (contextual:=true) only [go_sem,simprocAttr])|with_reducible refine evOps_nil ?_|((with_reducible refine hK _ ?_);clear hK K)|(with_reducible first|refine And.intro ?_ ?_|refine nxt_n ?_|refine nxt_r ?_|refine nxt_e ?_|refine blk_n ?_|refine blk_r ?_|refine blk_same ?_|refine blk_other (by decide) ?_|refine noG_n ?_|refine noG_r ?_|refine noG_e ?_|refine inR_mk ?_ ?_)|(refine hook_makeMap (k:=9) (e:=2) (by simp only [go_sem,simprocAttr]) ?_;simp only [go_sem,simprocAttr])|(refine fun (hc : (_ : Bool) = _)=>?_;try simp only [hcS] at hc))
  all_goals try exact om_
  refine V_loopK (G:={j : Nat // j ≤ L.length ∧ (True)}) (fun ⟨j,_⟩=>[(18,iv j),(7,.sl 0)]) [1,2,6,16,17] (fun ⟨j,_⟩=>[(0,⟨1,.arr (mapD Tryz.prog 9 2 j (pmO L j))⟩)]) [0] (fun zz=>L.length - zz.1) ⟨0,Nat.zero_le _,by first|trivial|simp⟩ ?_ ?_
  · exact Imp.au hX
  rintro ⟨j,hij,hwj⟩
  simp only [go_sem,simprocAttr]
  rcases Nat.lt_or_ge j L.length with hlj | hgj
  · have hpj:=hpart j hlj
    have hpl : (L.getD j default).obs.length ≤ 64:=by rw [h.ol j hlj];exact h.pl
    have hkj:=sp_key_two hpl (h.al j hlj) (h.ob j hlj) (h.ar j hlj)
    have hkz:=key2_size hpl (h.al j hlj)
    have e9 : pmO L (j + 1) = (pmO L j).put (.string (keyS [(L.getD j default).obs,(L.getD j default).ars]).data.toList) (.lit (.int .i64 j)):=rfl
    repeat' (first|(rw [hpj];simp only [go_sem,simprocAttr])|(with_reducible first|refine V_seq ?_|refine V_block ?_|refine V_skip ?_|refine V_ret ?_|refine V_exit ?_)|((with_reducible refine V_cond ?_);simp only [go_sem,simprocAttr])|((refine V_region (by rw [hn];rfl) ?_);intro K hK)|((first|with_reducible refine evOps_n ?_|((with_reducible apply evOps_g);rfl));intro K hK;simp (contextual:=true) only [go_sem,simprocAttr])|with_reducible refine evOps_nil ?_|((with_reducible refine hK _ ?_);clear hK K)|(with_reducible first|refine And.intro ?_ ?_|refine nxt_n ?_|refine nxt_r ?_|refine nxt_e ?_|refine blk_n ?_|refine blk_r ?_|refine blk_same ?_|refine blk_other (by decide) ?_|refine noG_n ?_|refine noG_r ?_|refine noG_e ?_|refine inR_mk ?_ ?_)|((with_reducible refine (id ?_ : EvCall _ _ [.bsl 2 2] _ _));refine EvCall.mk (hkj) cal_key [] [2] (by simp [go_sem] <;> (repeat' (first|rfl|constructor))) (by simp [go_sem] <;> (repeat' (first|rfl|constructor))) ?_;all_goals try simp only [go_sem,simprocAttr])|(refine hook_mapUpdate (i:=0) (cv:=1) (n:=j) (z:=(j : Int)) (D:=pmO L j) mapT rfl (by simp only [go_sem,simprocAttr]) (by simp only [go_sem,simprocAttr]) (by simp only [go_sem,simprocAttr]) hkz (by simp only [go_sem,simprocAttr]) ⟨by omega,by omega⟩ (by unfold maxLen;omega) ?_;simp only [go_sem,simprocAttr])|(refine fun (hc : (_ : Bool) = _)=>?_;try simp only [hcS] at hc))
    all_goals try exact om_
    · refine ⟨⟨j + 1,by omega,(by trivial)⟩,by simp only;omega,Imp.auto hX (by simp only [go_sem,simprocAttr,e9])⟩
  · have ej : j = L.length:=by omega
    subst ej
    repeat' (first|(refine V_at 8 (Imp.drop 1 (Nat.le_refl 1)) ?_;refine V_nameM 7 0 1 rfl rfl (Nat.le_refl 1) fun mv=>?_;simp only [go_sem,simprocAttr])|(with_reducible first|refine V_seq ?_|refine V_block ?_|refine V_skip ?_|refine V_ret ?_|refine V_exit ?_)|((with_reducible refine V_cond ?_);simp only [go_sem,simprocAttr])|((refine V_region (by rw [hn];rfl) ?_);intro K hK)|((first|with_reducible refine evOps_n ?_|((with_reducible apply evOps_g);rfl));intro K hK;simp (contextual:=true) only [go_sem,simprocAttr])|with_reducible refine evOps_nil ?_|((with_reducible refine hK _ ?_);clear hK K)|(with_reducible first|refine And.intro ?_ ?_|refine nxt_n ?_|refine nxt_r ?_|refine nxt_e ?_|refine blk_n ?_|refine blk_r ?_|refine blk_same ?_|refine blk_other (by decide) ?_|refine noG_n ?_|refine noG_r ?_|refine noG_e ?_|refine inR_mk ?_ ?_)|((with_reducible refine (id ?_ : EvCall _ _ [.bsl 1 2] _ _));refine EvCall.mk (hpq) cal_key [] [1] (by simp [go_sem] <;> (repeat' (first|rfl|constructor))) (by simp [go_sem] <;> (repeat' (first|rfl|constructor))) ?_;all_goals try simp only [go_sem,simprocAttr])|(refine hook_range (i:=0) (cv:=2) (k:=9) (e:=2) (n:=L.length) (D:=pmO L L.length) (mv:=mv) (W:=kO p q) (z:=(i : Int)) (m:=Go.Maps.size (pmO L L.length)) mapT (by simp only [go_sem,simprocAttr]) (by simp only [go_sem,simprocAttr]) (by simp only [go_sem,simprocAttr]) (show (2 : Nat) ≠ 0 by decide) hat (Nat.le_refl _) ?_;simp only [go_sem,simprocAttr])|(refine fun (hc : (_ : Bool) = _)=>?_;try simp only [hcS] at hc))
    all_goals try exact om_
    have hWk : kO p q = .string (keyS [p,q]).data.toList:=rfl
    refine V_loopK (G:=Nat) (fun m=>[(37,.sl 2),(7,.v mv)]) [6,10] (fun m=>[(0,⟨2,.gone⟩),(1,⟨2,.gone⟩),(2,⟨1,.arr (.ab (rgAb Tryz.prog 9 2 L.length mv (kO p q) (i : Int) (· ≤ m)))⟩)]) [0,1,2] (fun m=>m) (Go.Maps.size (pmO L L.length)) ?_ ?_
    · exact Imp.sub hX [(0,0),(1,1),(2,2)] (by simp [go_sem,simprocAttr])
    intro m
    simp only [go_sem,simprocAttr]
    refine V_split 2 1 m rfl (Nat.le_refl 1) ?_ ?_
    · repeat' (first|(with_reducible first|refine V_seq ?_|refine V_block ?_|refine V_skip ?_|refine V_ret ?_|refine V_exit ?_)|((with_reducible refine V_cond ?_);simp only [go_sem,simprocAttr])|((refine V_region (by rw [hn];rfl) ?_);intro K hK)|((first|with_reducible refine evOps_n ?_|((with_reducible apply evOps_g);rfl));intro K hK;simp (contextual:=true) only [go_sem,simprocAttr])|with_reducible refine evOps_nil ?_|((with_reducible refine hK _ ?_);clear hK K)|(with_reducible first|refine And.intro ?_ ?_|refine nxt_n ?_|refine nxt_r ?_|refine nxt_e ?_|refine blk_n ?_|refine blk_r ?_|refine blk_same ?_|refine blk_other (by decide) ?_|refine noG_n ?_|refine noG_r ?_|refine noG_e ?_|refine inR_mk ?_ ?_)|(refine hook_next0 (j:=2) (cv:=2) (k:=9) (e:=2) (n:=L.length) (mv:=mv) (W:=kO p q) (z:=(i : Int)) (φ:=(· = 0)) (by simp only [go_sem,simprocAttr]) (by simp only [go_sem,simprocAttr]) Tryz.underlying9 (fun c h=>h) ?_;simp only [go_sem,simprocAttr])|(refine hook_lookup_r (j:=2) (cv:=2) (k:=9) (e:=2) (n:=L.length) (mv:=mv) (W:=kO p q) (z:=(i : Int)) (φ:=(· = 0)) mapT (by simp only [go_sem,simprocAttr]) (by simp only [go_sem,simprocAttr]) hks (by simp only [go_sem,simprocAttr]) hWk ?_ (by decide);simp only [go_sem,simprocAttr])|(refine fun (hc : (_ : Bool) = _)=>?_;try simp only [hcS] at hc))
      all_goals try exact om_
      · (first|refine ret_auto ?_|refine ret_auto' ?_);simp only [go_sem,simprocAttr,Tryz.f67]
    · intro m' hm
      subst hm
      repeat' (first|(refine (id ?_ : V _ _ (Code.region 10 _ _) _ _);refine V_nameS 2 3 m' rfl (by decide) fun s hs=>?_)|((refine V_regionX (id:=11) (by rw [hn];rfl) ?_);intro K hK)|(refine evOpsX_h ?_;intro K hK;refine HkX.nes (a:=s) (b:=keyS [p,q]) Tryz.underlying9 (by simp only [go_sem,simprocAttr]) (by simp only [go_sem,simprocAttr]) ?_;simp only [go_sem,simprocAttr])|((with_reducible refine evOpsX_n ?_);intro K hK;simp (contextual:=true) only [go_sem,simprocAttr])|(with_reducible refine evOpsX_nil ?_)|(with_reducible first|refine V_seq ?_|refine V_block ?_|refine V_skip ?_|refine V_ret ?_|refine V_exit ?_)|((with_reducible refine V_cond ?_);simp only [go_sem,simprocAttr])|((refine V_region (by rw [hn];rfl) ?_);intro K hK)|((first|with_reducible refine evOps_n ?_|((with_reducible apply evOps_g);rfl));intro K hK;simp (contextual:=true) only [go_sem,simprocAttr])|with_reducible refine evOps_nil ?_|((with_reducible refine hK _ ?_);clear hK K)|(with_reducible first|refine And.intro ?_ ?_|refine nxt_n ?_|refine nxt_r ?_|refine nxt_e ?_|refine blk_n ?_|refine blk_r ?_|refine blk_same ?_|refine blk_other (by decide) ?_|refine noG_n ?_|refine noG_r ?_|refine noG_e ?_|refine inR_mk ?_ ?_)|(refine hook_next1 (j:=2) (cv:=2) (m:=m') (k:=9) (e:=2) (n:=L.length) (mv:=mv) (W:=kO p q) (z:=(i : Int)) (φ:=fun c=>1 ≤ c ∧ c ≤ m' + 1) (by simp only [go_sem,simprocAttr]) (by simp only [go_sem,simprocAttr]) Tryz.underlying9 (fun c h=>h) ?_;simp only [go_sem,simprocAttr])|(refine hook_entry (s:=s) (j:=2) (cv:=4) (m:=m') (k:=9) (e:=2) (n:=L.length) (mv:=mv) (W:=kO p q) (z:=(i : Int)) (by simp only [go_sem,simprocAttr]) (by simp only [go_sem,simprocAttr]) ?_;simp only [go_sem,simprocAttr])|(refine hook_delete (s:=s) (j:=2) (cv:=5) (m:=m') (k:=9) (e:=2) (n:=L.length) (mv:=mv) (W:=kO p q) (z:=(i : Int)) mapT (by simp only [go_sem,simprocAttr]) (by simp only [go_sem,simprocAttr]) hs (by simp only [go_sem,simprocAttr]) (by decide) (kO_ne (by assumption)) ?_;simp only [go_sem,simprocAttr])|(refine fun (hc : (_ : Bool) = _)=>?_;try simp only [hcS] at hc))
      all_goals try exact om_
      all_goals exact ⟨m',Nat.lt_succ_self _,Imp.sub hX [(0,0),(1,1),(2,2)] (by simp [go_sem,simprocAttr])⟩
theorem cal_l08Object : Callable Tryz.prog 64:=⟨_,Tryz.func64,rfl,rfl⟩
theorem sp_l08Object {ob : Int} {fr to id : List Int} {co A : List (List Int)} {L : List Fun} {g : Fun} {i : Nat} (h : ObOK L g.obs g.ars i) (hq : g.ars.length ≤ 64) : Spec Tryz.prog 64 [.agg [iv ob,.bor [] (ints fr),.bor [] (ints to),.bor [] (ints id),.bor [] (intss co),.bor [] (funsD L),.bor [] (intss A)],funV g] [] (iv i) []:=by
  refine spec_of_V (E:=TE) 0 Tryz.func64 rfl (by simp [Tryz.f64]) fun X hn hX=>?_
  have hn8:=h.n8
  have hpl:=h.pl
  repeat' (first|(with_reducible first|refine V_seq ?_|refine V_block ?_|refine V_skip ?_|refine V_ret ?_|refine V_exit ?_)|((with_reducible refine V_cond ?_);simp only [go_sem,simprocAttr])|((first|refine V_region (by rw [hn];rfl) ?_|refine V_drawn hmix (by rw [hn];rfl) ?_);intro K hK)|((first|with_reducible refine evOps_n ?_|((with_reducible apply evOps_g);rfl)|with_reducible refine evOpsD_n ?_|((with_reducible apply evOpsD_g);rfl));intro K hK;simp (contextual:=true) only [go_sem,simprocAttr])|with_reducible refine evOps_nil ?_|((with_reducible refine evOpsD_nil ?_ ?_);kernel_rfl)|((with_reducible refine hK _ ?_);clear hK K)|(with_reducible first|refine And.intro ?_ ?_|refine nxt_n ?_|refine nxt_r ?_|refine nxt_e ?_|refine blk_n ?_|refine blk_r ?_|refine blk_same ?_|refine blk_other (by decide) ?_|refine noG_n ?_|refine noG_r ?_|refine noG_e ?_|refine inR_mk ?_ ?_)|(refine fun (hc : (_ : Bool) = _)=>?_;try simp only [hcS] at hc))
  all_goals try exact om_
  refine V_loopK (G:={j : Nat // j ≤ L.length ∧ (j ≤ i)}) (fun ⟨j,_⟩=>[(5,iv j)]) [2,3] (fun ⟨j,_⟩=>[]) [] (fun zz=>L.length - zz.1) ⟨0,Nat.zero_le _,by exact Nat.zero_le _⟩ ?_ ?_
  · exact Imp.au hX
  rintro ⟨j,hij,hwj⟩
  simp only [go_sem,simprocAttr]
  rcases Nat.lt_or_ge j L.length with hlj | hgj
  · have hpj : (funsD L).part (j * 12) 12 = [.v (.int .i64 (L.getD j default).src.ob),ints (L.getD j default).src.fr,ints (L.getD j default).src.to,ints (L.getD j default).src.id,intss (L.getD j default).src.co,.v (.int .i64 (L.getD j default).tgt.ob),ints (L.getD j default).tgt.fr,ints (L.getD j default).tgt.to,ints (L.getD j default).tgt.id,intss (L.getD j default).tgt.co,ints (L.getD j default).obs,ints (L.getD j default).ars]:=funs_part L j hlj
    have ol:=h.ol j hlj
    have al:=h.al j hlj
    have hun:=h.un j hlj
    have hpo:=h.po
    have hqo:=h.qo
    by_cases hji : j = i
    · subst hji
      rw [hpo,hqo] at hpj
      repeat' (first|(rw [hpj];simp only [go_sem,simprocAttr])|(with_reducible first|refine V_seq ?_|refine V_block ?_|refine V_skip ?_|refine V_ret ?_|refine V_exit ?_)|((with_reducible refine V_cond ?_);simp only [go_sem,simprocAttr])|((first|refine V_region (by rw [hn];rfl) ?_|refine V_drawn hmix (by rw [hn];rfl) ?_);intro K hK)|((first|with_reducible refine evOps_n ?_|((with_reducible apply evOps_g);rfl)|with_reducible refine evOpsD_n ?_|((with_reducible apply evOpsD_g);rfl));intro K hK;simp (contextual:=true) only [go_sem,simprocAttr])|with_reducible refine evOps_nil ?_|((with_reducible refine evOpsD_nil ?_ ?_);kernel_rfl)|((with_reducible refine hK _ ?_);clear hK K)|(with_reducible first|refine And.intro ?_ ?_|refine nxt_n ?_|refine nxt_r ?_|refine nxt_e ?_|refine blk_n ?_|refine blk_r ?_|refine blk_same ?_|refine blk_other (by decide) ?_|refine noG_n ?_|refine noG_r ?_|refine noG_e ?_|refine inR_mk ?_ ?_)|((with_reducible refine evCall_at 122 ?_);refine EvCall.rq (a:=(sp_l01Same ?_ ?_)) (b:=cal_l01Same) (c:=?_);all_goals try simp only [go_sem,simprocAttr])|(refine fun (hc : (_ : Bool) = _)=>?_;try simp only [hcS] at hc))
      all_goals try exact om_
      · (first|refine ret_auto ?_|refine ret_auto' ?_);simp only [go_sem,simprocAttr,Tryz.f64]
    · repeat' (first|(rw [hpj];simp only [go_sem,simprocAttr])|(with_reducible first|refine V_seq ?_|refine V_block ?_|refine V_skip ?_|refine V_ret ?_|refine V_exit ?_)|((with_reducible refine V_cond ?_);simp only [go_sem,simprocAttr])|((first|refine V_region (by rw [hn];rfl) ?_|refine V_drawn hmix (by rw [hn];rfl) ?_);intro K hK)|((first|with_reducible refine evOps_n ?_|((with_reducible apply evOps_g);rfl)|with_reducible refine evOpsD_n ?_|((with_reducible apply evOpsD_g);rfl));intro K hK;simp (contextual:=true) only [go_sem,simprocAttr])|with_reducible refine evOps_nil ?_|((with_reducible refine evOpsD_nil ?_ ?_);kernel_rfl)|((with_reducible refine hK _ ?_);clear hK K)|(with_reducible first|refine And.intro ?_ ?_|refine nxt_n ?_|refine nxt_r ?_|refine nxt_e ?_|refine blk_n ?_|refine blk_r ?_|refine blk_same ?_|refine blk_other (by decide) ?_|refine noG_n ?_|refine noG_r ?_|refine noG_e ?_|refine inR_mk ?_ ?_)|((with_reducible refine evCall_at 122 ?_);refine EvCall.rq (a:=(sp_l01Same ?_ ?_)) (b:=cal_l01Same) (c:=?_);all_goals try simp only [go_sem,simprocAttr])|(refine fun (hc : (_ : Bool) = _)=>?_;try simp only [hcS] at hc))
      all_goals try exact om_
      · exact absurd (hun (by assumption) (by assumption)) hji
      · refine ⟨⟨j + 1,by omega,(by omega)⟩,by simp only;omega,Imp.ao hX⟩
      · refine ⟨⟨j + 1,by omega,(by omega)⟩,by simp only;omega,Imp.ao hX⟩
  · exfalso
    have:=h.lt
    omega
end Go.Eng
end
section
namespace Go.Eng
open Go Go.Proofs Go.Cats
theorem funX_has {c d : Cat} {b : Bool} {O Q : List Int} (hw : WA c d b O Q = true) (hO : Within O d.ob) (hQ : Q.length = c.fr.length) (hQw : Within Q d.fr.length) : ∀ (r : Nat) (X : List Int),O.take X.length = X → O.length = X.length + r → (⟨c,d,O,Q⟩ : Fun) ∈ funX c d b r X
  | 0,X,h1,h2=>by
    have e : X = O:=by rw [← h1,List.take_of_length_le (by omega)]
    subst e
    refine List.mem_map.2 ⟨Q,mem_extW.2 ⟨mem_lexP.2 ⟨?_,fun i hi=>?_⟩,contB_iff.2 ⟨?_,fun j hj h0=>?_⟩,hw⟩,rfl⟩
    · show Q.length = (List.replicate _ _).length
      rw [List.length_replicate];exact hQ
    · have:=hQw i hi
      rw [sA_getD (by omega)]
      exact this
    · simp [hQ]
    · rw [List.length_replicate] at hj
      rw [rep_neg,if_pos hj] at h0
      omega
  | r + 1,X,h1,h2=>by
    have hx:=hO X.length (by omega)
    show _ ∈ (List.range d.ob.toNat).flatMap fun v : Nat=>funX c d b r (X ++ [(v : Int)])
    refine List.mem_flatMap.2 ⟨(O.getD X.length 0).toNat,List.mem_range.2 (by omega),funX_has hw hO hQ hQw r _ ?_ ?_⟩
    · rw [List.length_append,List.length_singleton,List.take_succ_eq_append_getElem (by omega),h1,Int.toNat_of_nonneg hx.1,List.getD_eq_getElem?_getD,List.getElem?_eq_getElem (by omega)];rfl
    · rw [List.length_append,List.length_singleton];omega
theorem funX_nodup {c d : Cat} {b : Bool} : ∀ (r : Nat) (X : List Int),(funX c d b r X).Nodup
  | 0,X=>by
    show ((funA c d b X).map (mkF c d X)).Nodup
    refine List.Pairwise.map _ (fun a b h e=>?_) (List.Pairwise.filter _ (lexP_nodup _))
    exact h (congrArg Fun.ars e)
  | r + 1,X=>by
    show (coll d.ob.toNat fun v : Nat=>funX c d b r (X ++ [(v : Int)])).Nodup
    refine coll_nodup (fun i _=>funX_nodup r _) fun i j x _ _ h h'=>?_
    obtain ⟨_,_,h1,_⟩:=mem_funX h
    obtain ⟨_,_,h2,_⟩:=mem_funX h'
    rw [List.length_append,List.length_singleton] at h1 h2
    rw [h1] at h2
    have:=List.append_cancel_left h2
    have : (i : Int) = (j : Int):=by simpa using this
    omega
theorem nodup_at {α : Type} {l : List α} (h : l.Nodup) {x : α} {i j : Nat} (hi : i < l.length) (hj : j < l.length) (e : l.getD i x = l.getD j x) : i = j:=by
  rw [List.getD_eq_getElem?_getD,List.getElem?_eq_getElem hi,List.getD_eq_getElem?_getD,List.getElem?_eq_getElem hj] at e
  unfold List.Nodup at h
  rw [List.pairwise_iff_getElem] at h
  have e : l[i] = l[j]:=e
  rcases Nat.lt_trichotomy i j with q | q | q
  · exact absurd e (h i j hi hj q)
  · exact q
  · exact absurd e.symm (h j i hj hi q)
open Classical in
noncomputable def fcAt (L : List Fun) (p q : List Int) : Nat:=if h : ∃ i,i < L.length ∧ (L.getD i default).obs = p ∧ (L.getD i default).ars = q then h.choose else 0
theorem fc_ob {c d : Cat} {p q : List Int} (sc : Shape c) (sd : Shape d) (hL : (fcL c d).length ≤ 8) (hf : Fits ⟨c,d,p,q⟩) : ObOK (fcL c d) p q (fcAt (fcL c d) p q):=by
  have hfl : FL c d (fcL c d):=FL.of_funX
  have o1 : (p.length : Int) = c.ob:=hf.obl
  have o2 : q.length = c.fr.length:=hf.arl
  have o3 : Within p d.ob:=hf.obw
  have o4 : Within q d.fr.length:=hf.arw
  have c8:=sc.ob8
  have c40:=sc.m40
  have d8:=sd.ob8
  have d40:=sd.m40
  have hm : (⟨c,d,p,q⟩ : Fun) ∈ fcL c d:=funX_has (WA_iff.2 ⟨hf,fun h=>by cases h⟩) o3 o2 o4 _ [] rfl (by simp;omega)
  obtain ⟨k,hk,ek⟩:=mem_getD (d:=default) hm
  have hex : ∃ i,i < (fcL c d).length ∧ ((fcL c d).getD i default).obs = p ∧ ((fcL c d).getD i default).ars = q:=⟨k,hk,by rw [ek],by rw [ek]⟩
  have hch : fcAt (fcL c d) p q = hex.choose:=by unfold fcAt;rw [dif_pos hex]
  have hsp:=hex.choose_spec
  rw [← hch] at hsp
  obtain ⟨h1,h2,h3⟩:=hsp
  have hob:=fun j (hj : j < (fcL c d).length)=>(hfl j hj).2.2
  refine ⟨hL,h1,fun j hj=>?_,fun j hj x hx=>?_,fun j hj x hx=>?_,fun j hj=>?_,by omega,h2,h3,fun j hj e1 e2=>?_⟩
  · have:=(hob j hj).obl
    rw [(hfl j hj).1] at this
    omega
  · have:=(hob j hj).obw.mem hx
    rw [(hfl j hj).2.1] at this
    omega
  · have:=(hob j hj).arw.mem hx
    rw [(hfl j hj).2.1] at this
    omega
  · have:=(hob j hj).arl
    rw [(hfl j hj).1] at this
    omega
  · refine nodup_at (funX_nodup _ _) hj h1 (x:=default) ?_
    have a:=Fun.eta (hfl j hj).1 (hfl j hj).2.1
    have b:=Fun.eta (hfl _ h1).1 (hfl _ h1).2.1
    show (fcL c d).getD j default = (fcL c d).getD (fcAt (fcL c d) p q) default
    rw [← a,← b,e1,e2,h2,h3]
end Go.Eng
end
