/- Several texts in one: EngFm, EngMo. -/
import Derived.Test.YtmpopmololpaoaaGreatKox
import Derived.Test.YtmpopmololpaoaaGreatKalx
set_option linter.unusedVariables false
set_option linter.unusedSimpArgs false
section
namespace Go.Eng
open Go Go.Cats
section
variable {A B : List Fun} {cs : List Dt} {k : Nat} {e : Dt}
variable {X : Cx} {tm : List (Nat × Sv)} {rs : List (Nat × Rs)} {nx : Nat}
end
section
variable {a0 a1 a2 a3 a4 a5 a6 a7 a8 a9 a10 a11 : Dt} {A B : List Fun} {e : Dt}
@[go_sem] theorem mid_z (n : Nat) : n * 12 + 0 = n * 12:=rfl
@[go_sem] theorem mid_51 (n : Nat) : n * 12 + 5 + 1 = n * 12 + 6:=rfl
@[go_sem] theorem mid_52 (n : Nat) : n * 12 + 5 + 2 = n * 12 + 7:=rfl
@[go_sem] theorem mid_53 (n : Nat) : n * 12 + 5 + 3 = n * 12 + 8:=rfl
@[go_sem] theorem mid_54 (n : Nat) : n * 12 + 5 + 4 = n * 12 + 9:=rfl
@[go_sem] theorem mid_50 (n : Nat) : n * 12 + 5 + 0 = n * 12 + 5:=rfl
end
/-! ### Marked functors -/
def mkF1 (k : Int) (f : Fun) : Fun:=⟨⟨k,marks (k + 1) f.src.fr.length,marks (k + 1 + f.src.fr.length) f.src.to.length,marks (k + 1 + f.src.fr.length + f.src.to.length) f.src.id.length,marksS (k + 1 + f.src.fr.length + f.src.to.length + f.src.id.length) f.src.co⟩,⟨k + 1 + f.src.fr.length + f.src.to.length + f.src.id.length + sumLen f.src.co,marks (k + 1 + f.src.fr.length + f.src.to.length + f.src.id.length + sumLen f.src.co + 1) f.tgt.fr.length,marks (k + 1 + f.src.fr.length + f.src.to.length + f.src.id.length + sumLen f.src.co + 1 + f.tgt.fr.length) f.tgt.to.length,marks (k + 1 + f.src.fr.length + f.src.to.length + f.src.id.length + sumLen f.src.co + 1 + f.tgt.fr.length + f.tgt.to.length) f.tgt.id.length,marksS (k + 1 + f.src.fr.length + f.src.to.length + f.src.id.length + sumLen f.src.co + 1 + f.tgt.fr.length + f.tgt.to.length + f.tgt.id.length) f.tgt.co⟩,marks (k + 1 + f.src.fr.length + f.src.to.length + f.src.id.length + sumLen f.src.co + 1 + f.tgt.fr.length + f.tgt.to.length + f.tgt.id.length + sumLen f.tgt.co) f.obs.length,marks (k + 1 + f.src.fr.length + f.src.to.length + f.src.id.length + sumLen f.src.co + 1 + f.tgt.fr.length + f.tgt.to.length + f.tgt.id.length + sumLen f.tgt.co + f.obs.length) f.ars.length⟩
end Go.Eng
end
section
namespace Go.Eng
open Go Go.Cats
structure _root_.Go.Cats.Mon where
  on : Fun
  unit : List Int
  join : List Int
instance : Inhabited Mon:=⟨⟨default,[],[]⟩⟩
def monC (m : Mon) : List Dt:=[.v (.int .i64 m.on.src.ob),ints m.on.src.fr,ints m.on.src.to,ints m.on.src.id,intss m.on.src.co,.v (.int .i64 m.on.tgt.ob),ints m.on.tgt.fr,ints m.on.tgt.to,ints m.on.tgt.id,intss m.on.tgt.co,ints m.on.obs,ints m.on.ars,ints m.unit,ints m.join]
def monsD (l : List Mon) : Dt:=.sl 14 (.v (.int .i64 0)) (l.flatMap monC)
theorem monC_len (f : Mon) : (monC f).length = 14:=rfl
theorem mons_cells (l : List Mon) : (l.flatMap monC).length = l.length * 14:=by
  induction l with
  | nil=>rfl
  | cons f l ih=>rw [List.flatMap_cons,List.length_append,ih,monC_len,List.length_cons];omega
@[go_sem] theorem mons_isSl (l) : (monsD l).isSl = true:=rfl
@[go_sem] theorem mons_sz (l) : (monsD l).sz = 14:=rfl
@[go_sem] theorem mons_nc (l : List Mon) : (monsD l).nc = l.length * 14:=mons_cells l
@[go_sem] theorem mons_len (l : List Mon) : (monsD l).len = l.length:=by
  unfold Dt.len
  rw [mons_nc,mons_sz];omega
@[go_sem] theorem ofDt_mons (ts) (l : List Mon) : Sv.ofDt ts (monsD l) = .bor ts (monsD l):=rfl
@[go_sem] theorem mons_ones (l : List Mon) : (monsD l).ones = true:=by
  unfold monsD Dt.ones Dt.cells
  rw [List.all_eq_true]
  intro d hd
  obtain ⟨f,_,hf⟩:=List.mem_flatMap.1 hd
  simp only [monC,List.mem_cons,List.not_mem_nil,or_false] at hf
  rcases hf with rfl | rfl | rfl | rfl | rfl | rfl | rfl | rfl | rfl | rfl | rfl | rfl | rfl | rfl <;> rfl
@[go_sem] theorem mons_app (l m : List Mon) : Dt.app 14 (.v (.int .i64 0)) (monsD l) (monsD m) = monsD (l ++ m):=by simp [monsD,Dt.app,Dt.cells]
@[go_sem] theorem mons_nil : Dt.sl 14 (.v (.int .i64 0)) [] = monsD []:=rfl
@[go_sem] theorem mons_one (o p : Int) (a b c e f g q r s t : List Int) (d h : List (List Int)) : Dt.sl 14 (.v (.int .i64 0)) [.v (.int .i64 o),ints a,ints b,ints c,intss d,.v (.int .i64 p),ints e,ints f,ints g,intss h,ints q,ints r,ints s,ints t] = monsD [⟨⟨⟨o,a,b,c,d⟩,⟨p,e,f,g,h⟩,q,r⟩,s,t⟩]:=rfl
@[go_sem] theorem mons_flat1 (f : Mon) : (monsD [f]).flat = false:=rfl
theorem mons_part (l : List Mon) (i : Nat) (h : i < l.length) : (monsD l).part (i * 14) 14 = monC (l.getD i default):=by
  unfold monsD Dt.part
  simp only [Dt.cells]
  induction l generalizing i with
  | nil=>simp at h
  | cons p l ih =>
    cases i with
    | zero=>rfl
    | succ i =>
      rw [List.flatMap_cons,show (i + 1) * 14 = 14 + i * 14 by omega,← List.drop_drop,List.getD_cons_succ]
      exact ih i (by simpa using h)
def midM (A : List Mon) (cs : List Dt) (B : List Mon) : Dt:=.sl 14 (.v (.int .i64 0)) (A.flatMap monC ++ (cs ++ B.flatMap monC))
theorem midM_mon (A : List Mon) (g : Mon) (B : List Mon) : midM A (monC g) B = monsD (A ++ g :: B):=by simp [midM,monsD,List.flatMap_append,List.flatMap_cons]
section
variable {A B : List Mon} {cs : List Dt} {k : Nat} {e : Dt}
@[go_sem] theorem mim_isSl (A cs B) : (midM A cs B).isSl = true:=rfl
@[go_sem] theorem mim_sz (A cs B) : (midM A cs B).sz = 14:=rfl
@[go_sem] theorem mim_df (A cs B) : (midM A cs B).df = .v (.int .i64 0):=rfl
theorem mim_nc (h : cs.length = 14) : (midM A cs B).nc = (A.length + 1 + B.length) * 14:=by
  unfold midM Dt.nc Dt.cells
  rw [List.length_append,List.length_append,mons_cells,mons_cells,h];omega
theorem mim_len (h : cs.length = 14) : (midM A cs B).len = A.length + 1 + B.length:=by
  unfold Dt.len
  rw [mim_nc h,mim_sz];omega
theorem mim_at (h : k < cs.length) : (midM A cs B).at (A.length * 14 + k) = cs.getD k (.v (.int .i64 0)):=by
  unfold midM Dt.at Dt.cells Dt.df
  have ha:=mons_cells A
  rw [List.getD_eq_getElem?_getD,List.getElem?_append_right (by omega),ha,Nat.add_sub_cancel_left,List.getElem?_append_left h,← List.getD_eq_getElem?_getD]
theorem mim_put (h : k < cs.length) : (midM A cs B).put (A.length * 14 + k) e = midM A (cs.set k e) B:=by
  unfold midM Dt.put Dt.cells Dt.sz Dt.df
  have ha:=mons_cells A
  rw [List.set_append_right _ _ (by omega),ha,Nat.add_sub_cancel_left,List.set_append_left _ _ h]
variable {X : Cx} {tm : List (Nat × Sv)} {rs : List (Nat × Rs)} {nx : Nat}
theorem Imp.mimOpen (i k cv : Nat) (e : Dt) (hi : rsL rs i = ⟨cv,.arr (midM A cs B)⟩) (hcv : 1 ≤ cv) (hk : k < cs.length) (h14 : cs.length = 14) (he : cs.getD k (.v (.int .i64 0)) = e) (hsl : e.isSl = true) (hf : rsL rs nx = ⟨0,.gone⟩) :
    Imp X ⟨tm,rs,nx⟩ ⟨tm,(i,⟨cv + 1,.hol (midM A cs B) [(A.length * 14 + k,.sl nx)]⟩) :: (nx,⟨1,.arr e⟩) :: rs,nx + 1⟩ :=
  Imp.open1 i (A.length * 14 + k) cv _ e [] (.inr ⟨hi,rfl⟩) hcv (by rw [mim_nc h14];omega) rfl (by rw [mim_at hk];exact he) hsl hf
theorem Imp.mimClose (i j k cv cj : Nat) (e : Dt) (hi : rsL rs i = ⟨cv,.hol (midM A cs B) [(A.length * 14 + k,.sl j)]⟩) (hj : rsL rs j = ⟨cj,.arr e⟩) (hij : i ≠ j) (hk : k < cs.length) (h14 : cs.length = 14) :
    Imp X ⟨tm,rs,nx⟩ ⟨tm,(i,⟨cv + 1,.arr (midM A (cs.set k e) B)⟩) :: (j,⟨cj,.gone⟩) :: rs,nx⟩:=by
  have h:=Imp.closeA (X:=X) (σ:=⟨tm,rs,nx⟩) i j (A.length * 14 + k) (midM A cs B) e (by unfold Ss.get;rw [hi]) (by unfold Ss.get;rw [hj]) hij (by rw [mim_nc h14];omega)
  unfold Ss.get at h
  rw [hi,hj,mim_put hk] at h
  exact h
end
section
variable {a0 a1 a2 a3 a4 a5 a6 a7 a8 a9 a10 a11 a12 a13 : Dt} {A B : List Mon} {e : Dt}
@[go_sem] theorem mim_nc14 : (midM A [a0,a1,a2,a3,a4,a5,a6,a7,a8,a9,a10,a11,a12,a13] B).nc = (A.length + 1 + B.length) * 14:=mim_nc rfl
@[go_sem] theorem mim_len14 : (midM A [a0,a1,a2,a3,a4,a5,a6,a7,a8,a9,a10,a11,a12,a13] B).len = A.length + 1 + B.length:=mim_len rfl
@[go_sem] theorem mim_at0 : (midM A [a0,a1,a2,a3,a4,a5,a6,a7,a8,a9,a10,a11,a12,a13] B).at (A.length * 14) = a0:=mim_at (cs:=[a0,a1,a2,a3,a4,a5,a6,a7,a8,a9,a10,a11,a12,a13]) (k:=0) (by decide : 0 < 14)
@[go_sem] theorem mim_put0 : (midM A [a0,a1,a2,a3,a4,a5,a6,a7,a8,a9,a10,a11,a12,a13] B).put (A.length * 14) e = midM A [e,a1,a2,a3,a4,a5,a6,a7,a8,a9,a10,a11,a12,a13] B:=mim_put (cs:=[a0,a1,a2,a3,a4,a5,a6,a7,a8,a9,a10,a11,a12,a13]) (k:=0) (by decide : 0 < 14)
@[go_sem] theorem mim_at1 : (midM A [a0,a1,a2,a3,a4,a5,a6,a7,a8,a9,a10,a11,a12,a13] B).at (A.length * 14 + 1) = a1:=mim_at (cs:=[a0,a1,a2,a3,a4,a5,a6,a7,a8,a9,a10,a11,a12,a13]) (k:=1) (by decide : 1 < 14)
@[go_sem] theorem mim_put1 : (midM A [a0,a1,a2,a3,a4,a5,a6,a7,a8,a9,a10,a11,a12,a13] B).put (A.length * 14 + 1) e = midM A [a0,e,a2,a3,a4,a5,a6,a7,a8,a9,a10,a11,a12,a13] B:=mim_put (cs:=[a0,a1,a2,a3,a4,a5,a6,a7,a8,a9,a10,a11,a12,a13]) (k:=1) (by decide : 1 < 14)
@[go_sem] theorem mim_at2 : (midM A [a0,a1,a2,a3,a4,a5,a6,a7,a8,a9,a10,a11,a12,a13] B).at (A.length * 14 + 2) = a2:=mim_at (cs:=[a0,a1,a2,a3,a4,a5,a6,a7,a8,a9,a10,a11,a12,a13]) (k:=2) (by decide : 2 < 14)
@[go_sem] theorem mim_put2 : (midM A [a0,a1,a2,a3,a4,a5,a6,a7,a8,a9,a10,a11,a12,a13] B).put (A.length * 14 + 2) e = midM A [a0,a1,e,a3,a4,a5,a6,a7,a8,a9,a10,a11,a12,a13] B:=mim_put (cs:=[a0,a1,a2,a3,a4,a5,a6,a7,a8,a9,a10,a11,a12,a13]) (k:=2) (by decide : 2 < 14)
@[go_sem] theorem mim_at3 : (midM A [a0,a1,a2,a3,a4,a5,a6,a7,a8,a9,a10,a11,a12,a13] B).at (A.length * 14 + 3) = a3:=mim_at (cs:=[a0,a1,a2,a3,a4,a5,a6,a7,a8,a9,a10,a11,a12,a13]) (k:=3) (by decide : 3 < 14)
@[go_sem] theorem mim_put3 : (midM A [a0,a1,a2,a3,a4,a5,a6,a7,a8,a9,a10,a11,a12,a13] B).put (A.length * 14 + 3) e = midM A [a0,a1,a2,e,a4,a5,a6,a7,a8,a9,a10,a11,a12,a13] B:=mim_put (cs:=[a0,a1,a2,a3,a4,a5,a6,a7,a8,a9,a10,a11,a12,a13]) (k:=3) (by decide : 3 < 14)
@[go_sem] theorem mim_at4 : (midM A [a0,a1,a2,a3,a4,a5,a6,a7,a8,a9,a10,a11,a12,a13] B).at (A.length * 14 + 4) = a4:=mim_at (cs:=[a0,a1,a2,a3,a4,a5,a6,a7,a8,a9,a10,a11,a12,a13]) (k:=4) (by decide : 4 < 14)
@[go_sem] theorem mim_put4 : (midM A [a0,a1,a2,a3,a4,a5,a6,a7,a8,a9,a10,a11,a12,a13] B).put (A.length * 14 + 4) e = midM A [a0,a1,a2,a3,e,a5,a6,a7,a8,a9,a10,a11,a12,a13] B:=mim_put (cs:=[a0,a1,a2,a3,a4,a5,a6,a7,a8,a9,a10,a11,a12,a13]) (k:=4) (by decide : 4 < 14)
@[go_sem] theorem mim_at5 : (midM A [a0,a1,a2,a3,a4,a5,a6,a7,a8,a9,a10,a11,a12,a13] B).at (A.length * 14 + 5) = a5:=mim_at (cs:=[a0,a1,a2,a3,a4,a5,a6,a7,a8,a9,a10,a11,a12,a13]) (k:=5) (by decide : 5 < 14)
@[go_sem] theorem mim_put5 : (midM A [a0,a1,a2,a3,a4,a5,a6,a7,a8,a9,a10,a11,a12,a13] B).put (A.length * 14 + 5) e = midM A [a0,a1,a2,a3,a4,e,a6,a7,a8,a9,a10,a11,a12,a13] B:=mim_put (cs:=[a0,a1,a2,a3,a4,a5,a6,a7,a8,a9,a10,a11,a12,a13]) (k:=5) (by decide : 5 < 14)
@[go_sem] theorem mim_at6 : (midM A [a0,a1,a2,a3,a4,a5,a6,a7,a8,a9,a10,a11,a12,a13] B).at (A.length * 14 + 6) = a6:=mim_at (cs:=[a0,a1,a2,a3,a4,a5,a6,a7,a8,a9,a10,a11,a12,a13]) (k:=6) (by decide : 6 < 14)
@[go_sem] theorem mim_put6 : (midM A [a0,a1,a2,a3,a4,a5,a6,a7,a8,a9,a10,a11,a12,a13] B).put (A.length * 14 + 6) e = midM A [a0,a1,a2,a3,a4,a5,e,a7,a8,a9,a10,a11,a12,a13] B:=mim_put (cs:=[a0,a1,a2,a3,a4,a5,a6,a7,a8,a9,a10,a11,a12,a13]) (k:=6) (by decide : 6 < 14)
@[go_sem] theorem mim_at7 : (midM A [a0,a1,a2,a3,a4,a5,a6,a7,a8,a9,a10,a11,a12,a13] B).at (A.length * 14 + 7) = a7:=mim_at (cs:=[a0,a1,a2,a3,a4,a5,a6,a7,a8,a9,a10,a11,a12,a13]) (k:=7) (by decide : 7 < 14)
@[go_sem] theorem mim_put7 : (midM A [a0,a1,a2,a3,a4,a5,a6,a7,a8,a9,a10,a11,a12,a13] B).put (A.length * 14 + 7) e = midM A [a0,a1,a2,a3,a4,a5,a6,e,a8,a9,a10,a11,a12,a13] B:=mim_put (cs:=[a0,a1,a2,a3,a4,a5,a6,a7,a8,a9,a10,a11,a12,a13]) (k:=7) (by decide : 7 < 14)
@[go_sem] theorem mim_at8 : (midM A [a0,a1,a2,a3,a4,a5,a6,a7,a8,a9,a10,a11,a12,a13] B).at (A.length * 14 + 8) = a8:=mim_at (cs:=[a0,a1,a2,a3,a4,a5,a6,a7,a8,a9,a10,a11,a12,a13]) (k:=8) (by decide : 8 < 14)
@[go_sem] theorem mim_put8 : (midM A [a0,a1,a2,a3,a4,a5,a6,a7,a8,a9,a10,a11,a12,a13] B).put (A.length * 14 + 8) e = midM A [a0,a1,a2,a3,a4,a5,a6,a7,e,a9,a10,a11,a12,a13] B:=mim_put (cs:=[a0,a1,a2,a3,a4,a5,a6,a7,a8,a9,a10,a11,a12,a13]) (k:=8) (by decide : 8 < 14)
@[go_sem] theorem mim_at9 : (midM A [a0,a1,a2,a3,a4,a5,a6,a7,a8,a9,a10,a11,a12,a13] B).at (A.length * 14 + 9) = a9:=mim_at (cs:=[a0,a1,a2,a3,a4,a5,a6,a7,a8,a9,a10,a11,a12,a13]) (k:=9) (by decide : 9 < 14)
@[go_sem] theorem mim_put9 : (midM A [a0,a1,a2,a3,a4,a5,a6,a7,a8,a9,a10,a11,a12,a13] B).put (A.length * 14 + 9) e = midM A [a0,a1,a2,a3,a4,a5,a6,a7,a8,e,a10,a11,a12,a13] B:=mim_put (cs:=[a0,a1,a2,a3,a4,a5,a6,a7,a8,a9,a10,a11,a12,a13]) (k:=9) (by decide : 9 < 14)
@[go_sem] theorem mim_at10 : (midM A [a0,a1,a2,a3,a4,a5,a6,a7,a8,a9,a10,a11,a12,a13] B).at (A.length * 14 + 10) = a10:=mim_at (cs:=[a0,a1,a2,a3,a4,a5,a6,a7,a8,a9,a10,a11,a12,a13]) (k:=10) (by decide : 10 < 14)
@[go_sem] theorem mim_put10 : (midM A [a0,a1,a2,a3,a4,a5,a6,a7,a8,a9,a10,a11,a12,a13] B).put (A.length * 14 + 10) e = midM A [a0,a1,a2,a3,a4,a5,a6,a7,a8,a9,e,a11,a12,a13] B:=mim_put (cs:=[a0,a1,a2,a3,a4,a5,a6,a7,a8,a9,a10,a11,a12,a13]) (k:=10) (by decide : 10 < 14)
@[go_sem] theorem mim_at11 : (midM A [a0,a1,a2,a3,a4,a5,a6,a7,a8,a9,a10,a11,a12,a13] B).at (A.length * 14 + 11) = a11:=mim_at (cs:=[a0,a1,a2,a3,a4,a5,a6,a7,a8,a9,a10,a11,a12,a13]) (k:=11) (by decide : 11 < 14)
@[go_sem] theorem mim_put11 : (midM A [a0,a1,a2,a3,a4,a5,a6,a7,a8,a9,a10,a11,a12,a13] B).put (A.length * 14 + 11) e = midM A [a0,a1,a2,a3,a4,a5,a6,a7,a8,a9,a10,e,a12,a13] B:=mim_put (cs:=[a0,a1,a2,a3,a4,a5,a6,a7,a8,a9,a10,a11,a12,a13]) (k:=11) (by decide : 11 < 14)
@[go_sem] theorem mim_at12 : (midM A [a0,a1,a2,a3,a4,a5,a6,a7,a8,a9,a10,a11,a12,a13] B).at (A.length * 14 + 12) = a12:=mim_at (cs:=[a0,a1,a2,a3,a4,a5,a6,a7,a8,a9,a10,a11,a12,a13]) (k:=12) (by decide : 12 < 14)
@[go_sem] theorem mim_put12 : (midM A [a0,a1,a2,a3,a4,a5,a6,a7,a8,a9,a10,a11,a12,a13] B).put (A.length * 14 + 12) e = midM A [a0,a1,a2,a3,a4,a5,a6,a7,a8,a9,a10,a11,e,a13] B:=mim_put (cs:=[a0,a1,a2,a3,a4,a5,a6,a7,a8,a9,a10,a11,a12,a13]) (k:=12) (by decide : 12 < 14)
@[go_sem] theorem mim_at13 : (midM A [a0,a1,a2,a3,a4,a5,a6,a7,a8,a9,a10,a11,a12,a13] B).at (A.length * 14 + 13) = a13:=mim_at (cs:=[a0,a1,a2,a3,a4,a5,a6,a7,a8,a9,a10,a11,a12,a13]) (k:=13) (by decide : 13 < 14)
@[go_sem] theorem mim_put13 : (midM A [a0,a1,a2,a3,a4,a5,a6,a7,a8,a9,a10,a11,a12,a13] B).put (A.length * 14 + 13) e = midM A [a0,a1,a2,a3,a4,a5,a6,a7,a8,a9,a10,a11,a12,e] B:=mim_put (cs:=[a0,a1,a2,a3,a4,a5,a6,a7,a8,a9,a10,a11,a12,a13]) (k:=13) (by decide : 13 < 14)
@[go_sem] theorem mim_z (n : Nat) : n * 14 + 0 = n * 14:=rfl
@[go_sem] theorem mim_51 (n : Nat) : n * 14 + 5 + 1 = n * 14 + 6:=rfl
@[go_sem] theorem mim_52 (n : Nat) : n * 14 + 5 + 2 = n * 14 + 7:=rfl
@[go_sem] theorem mim_53 (n : Nat) : n * 14 + 5 + 3 = n * 14 + 8:=rfl
@[go_sem] theorem mim_54 (n : Nat) : n * 14 + 5 + 4 = n * 14 + 9:=rfl
@[go_sem] theorem mim_50 (n : Nat) : n * 14 + 5 + 0 = n * 14 + 5:=rfl
end
/-! ### Marked monads -/
def Mon.mkn' (m : Mon) : Nat:=m.on.mkn + 2 + m.unit.length + m.join.length
def mkM1 (k : Int) (m : Mon) : Mon:=⟨mkF1 k m.on,marks (k + 1 + m.on.src.fr.length + m.on.src.to.length + m.on.src.id.length + sumLen m.on.src.co + 1 + m.on.tgt.fr.length + m.on.tgt.to.length + m.on.tgt.id.length + sumLen m.on.tgt.co + m.on.obs.length + m.on.ars.length) m.unit.length,marks (k + 1 + m.on.src.fr.length + m.on.src.to.length + m.on.src.id.length + sumLen m.on.src.co + 1 + m.on.tgt.fr.length + m.on.tgt.to.length + m.on.tgt.id.length + sumLen m.on.tgt.co + m.on.obs.length + m.on.ars.length + m.unit.length) m.join.length⟩
def mkMs (k : Int) : List Mon → List Mon
  | []=>[]
  | f :: l=>mkM1 k f :: mkMs (k + (Mon.mkn' f : Nat)) l
def mkMn : List Mon → Nat
  | []=>0
  | f :: l=>Mon.mkn' f + mkMn l
theorem mkMs_len : ∀ (k : Int) (l : List Mon),(mkMs k l).length = l.length
  | _,[]=>rfl
  | k,f :: l=>by simp [mkMs,mkMs_len]
theorem mkMs_snoc : ∀ (k : Int) (l : List Mon) (f : Mon),mkMs k (l ++ [f]) = mkMs k l ++ [mkM1 (k + mkMn l) f]
  | k,[],f=>by simp [mkMs,mkMn]
  | k,g :: l,f=>by
    have e : k + ((Mon.mkn' g : Nat) : Int) + mkMn l = k + ((Mon.mkn' g + mkMn l : Nat) : Int):=by omega
    rw [List.cons_append,mkMs,mkMs_snoc,mkMs,mkMn,List.cons_append,e]
theorem mkMn_snoc (f : Mon) : ∀ l : List Mon,mkMn (l ++ [f]) = mkMn l + Mon.mkn' f
  | []=>by simp [mkMn]
  | g :: l=>by rw [List.cons_append,mkMn,mkMn_snoc f l,mkMn];omega
@[go_sem] theorem mkMs_nil (k : Int) : mkMs k [] = []:=rfl
@[go_sem] theorem mkMn_nil : mkMn [] = 0:=rfl
theorem mkMn_take {F : List Mon} {i : Nat} (h : i < F.length) : mkMn (F.take (i + 1)) = mkMn (F.take i) + Mon.mkn' (F.getD i default):=by
  rw [List.take_add_one,List.getElem?_eq_getElem h,List.getD_eq_getElem?_getD,List.getElem?_eq_getElem h]
  exact mkMn_snoc _ _
theorem mkMs_take {F : List Mon} {i : Nat} (k : Int) (h : i < F.length) : mkMs k (F.take (i + 1)) = mkMs k (F.take i) ++ [mkM1 (k + mkMn (F.take i)) (F.getD i default)]:=by
  rw [List.take_add_one,List.getElem?_eq_getElem h,List.getD_eq_getElem?_getD,List.getElem?_eq_getElem h]
  exact mkMs_snoc _ _ _
theorem mkMn_le (F : List Mon) : ∀ i,mkMn (F.take i) ≤ mkMn F:=by
  induction F with
  | nil=>intro i;rw [List.take_nil];exact Nat.le_refl _
  | cons f l ih =>
    intro i
    cases i with
    | zero=>exact Nat.zero_le _
    | succ i=>have:=ih i;simp only [List.take_succ_cons,mkMn];omega
theorem mkMs_getD {F : List Mon} {i : Nat} : ∀ (k : Int),i < F.length → (mkMs k F).getD i default = mkM1 (k + mkMn (F.take i)) (F.getD i default):=by
  induction F generalizing i with
  | nil=>intro k h;simp at h
  | cons f l ih =>
    intro k h
    cases i with
    | zero=>simp [mkMs,mkMn]
    | succ i =>
      have:=ih (i:=i) (k + (Mon.mkn' f : Nat)) (by simpa using h)
      simp only [mkMs,List.getD_cons_succ,List.take_succ_cons,mkMn]
      rw [this]
      congr 1
      omega
end Go.Eng
end
