/- slices.Insert at pivots, where elements stand behind: as a contract over resources. -/
import Derived.Test.YtcepgfcolmdnoaaRI
import Derived.Test.YtcepgfcolmdnoaaF3
namespace Go.Proofs.Ytcepgfcolmdnoaa.E
open Go Go.RowKit Go.Lib
set_option linter.unusedVariables false
set_option linter.unusedSimpArgs false

/-- A row of pairs of one's own, in plain words. -/
theorem row_parts {w : World} {W : Wit} {R : List Res} {i e : Nat} {xs : List (Int × Int)} (hs : Sep w W R) (hR : R[i]? = some (.row e 2 (pairs xs))) (hp : 0 < xs.length) :
  ∃ g cap cur,W.hs i = .slice (some ⟨g,0,none⟩) xs.length cap∧W.fs i g∧w.heap[g]? = some (.cells cur e (0,0))∧xs.length≤cap∧cap≤maxLen∧cur.size=cap*2∧cur.toList.take (xs.length*2)=flat xs∧w.ownsRow 0 e 2 (W.hs i) (pairs xs).length (flat xs):=by
 obtain⟨f1,f2,cells,G,f3,f4,f5,f6⟩:=hs.res i _ hR
 have hc:=f4.scs_inv (pairs_isSc xs)
 rw [flat_pairs] at hc
 have hc':=scs_eq hc
 subst hc'
 have f3':=f3
 rcases f3'.2 with ⟨_,h0⟩|⟨g,cap,cur,e1,_,e2,e3,e4,e5,e6⟩
 ·rw [pairs_len] at h0;omega
 ·rw [pairs_len] at e1 e3 e6
  exact⟨g,cap,cur,e1,(f6 g).2 (.inl (by rw [e1];rfl)),e2,e3,e4,e5,e6,f3⟩

theorem whole_val {w : World} {W : Wit} {R : List Res} {i e n : Nat} {xs : List (Int × Int)} {v : Value} (hs : Sep w W R) (hR : R[i]? = some (.row e 2 (pairs xs))) (hn : xs.length = n) (hp : 0 < n) (hv : AVR W R w (.c (.sl i 0 n n)) v) : v = W.hs i := by
 have hv':AR W R w [.sl i 0 n n] [v]:=hv
 cases hv' with
 | sl h1 h2 h3 _ =>
  obtain⟨a,n',c',k1,k2,k3⟩:=(h3 _ _ _ hR).2 (by rw [pairs_len];exact hn)
  obtain⟨g,cap,cur,e1,_⟩:=row_parts hs hR (by omega)
  rw [e1] at k1
  obtain⟨rfl,rfl,rfl⟩:a=some ⟨g,0,none⟩∧n'=xs.length∧c'=cap:=by cases k1;exact⟨rfl,rfl,rfl⟩
  rcases k3 with k3|⟨_,h0,_⟩
  ·rw [k3,e1,hn];simp
  ·omega

end Go.Proofs.Ytcepgfcolmdnoaa.E
