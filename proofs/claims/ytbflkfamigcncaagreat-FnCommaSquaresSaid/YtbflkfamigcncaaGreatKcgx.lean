/- Several texts in one: Q01, Q02. -/
import Derived.Test.YtbflkfamigcncaaGreatA01y
import Derived.Test.YtbflkfamigcncaaGreatC18q
import Derived.Test.YtbflkfamigcncaaGreatKfx
set_option linter.unusedSimpArgs false
set_option linter.unusedVariables false
set_option maxRecDepth 100000
set_option maxHeartbeats 16000000
section
namespace Go.Eng
open Go Go.Proofs Go.Cats
attribute [local go_sem] List.set_cons_zero List.set_cons_succ
theorem aE1 {c d:Cat} {a b k:Nat} {B:List Int} {t u v:Fs} (ha:a<c.fr.length) (hb:b<c.fr.length) (h1:bO c d c.fr.length a (true,false,B)=t) (t1:t.1=true) (h2:gH c d a b t=u) (u1:u.1=true) (h3:stF c d a b u=v) (v1:v.1=false):eY c d (k+1) B=(false,v.2.2):=by
 subst h1 h2 h3
 have e1:gH c d a c.fr.length (bO c d c.fr.length a (true,false,B))=stF c d a b (gH c d a b (bO c d c.fr.length a (true,false,B))):=by
  rw [aCl (b:=b+1) (by rw [uQ u1];exact v1) (by omega),uQ u1]
 have e2:bO c d c.fr.length c.fr.length (true,false,B)=stF c d a b (gH c d a b (bO c d c.fr.length a (true,false,B))):=by
  rw [aAu (a:=a+1) (by rw [pQ t1,e1];exact v1) (by omega),pQ t1,e1]
 rw [aBY (by rw [e2];exact v1),e2]
attribute [local go_sem] sP wL
end Go.Eng
end
section
namespace Go.Eng
open Go Go.Proofs Go.Cats
theorem aQV {M:Nat} {o:List Fun} {q:Fun}:(stL M o q).1=decide (o.length+1≤M):=rfl
theorem aQW {M:Nat} {o:List Fun} {q:Fun}:(stL M o q).2=o++[q]:=rfl
theorem aG2 {M:Nat} {O:List Fun}:eat (stL M) O []=(true,O):=rfl
attribute [local go_sem] aG2 nL List.map_nil List.set_cons_zero List.set_cons_succ aQV aQW
def _root_.Go.Cats.mkF (c d:Cat) (P Q:List Int):Fun:=⟨c,d,P,Q⟩
end Go.Eng
end
