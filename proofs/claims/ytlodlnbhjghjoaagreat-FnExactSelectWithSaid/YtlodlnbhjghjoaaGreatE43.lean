/- Words of the session's own, forty-third part: an own slice grows in a drawn region while other variables are read at any time; operations on bits; conversions between integers. -/
import Derived.Test.YtlodlnbhjghjoaaGreatE42
namespace Go.Proofs.YtlodlnbhjghjoaaGreat.E
open Go Go.RowKit
set_option linter.unusedVariables false
set_option linter.unusedSimpArgs false

section
variable {P : Program} {N : Nat} {s : Slots} {R : List Res}
theorem append_wp {o : Oper} {d t e k bytes i n : Nat} {x y : Operand} {bb : Bool} {zs : List AC} {rows news : List (List T)} (ho : o.op = .call { callee := .builtin .append, args := #[x, y], argTypes := #[t, t] }) (hd : o.dst = some d) (hN : d < N)
    (ht : isSlice P t = some e) (hty : tyIs P e = some (bb, k)) (hby : (P.info? e).map (·.bytes) = some bytes) (hz : zav P e = some zs) (hzl : zs.length = k ∧ 0 < k) (hx : ev s x = .c (.sl i 0 n n)) (hR : R[i]? = some (.row e k rows)) (hn : rows.length = n)
    (hy : E.lend R (ev s y) = .c (.ro news)) (hnews : ∀ r ∈ news, r.length = k ∧ r.all isSc = true) (hsz : n + news.length ≤ 9223372036854775807 ∧ (n + news.length) * bytes ≤ 140737488355328)
    {Q : Exit → Act → World → Prop} {a : Act} {w : World} {W : Wit} (hn' : Now N s R a w W) : o.wp P a w (fun a' w' => ∃ W', Now N ((d, .c (.sl i 0 (n + news.length) (n + news.length))) :: s) (R.set i (.row e k (rows ++ news))) a' w' W' ∧ Trans w W R w' W' (R.set i (.row e k (rows ++ news))) ∧ ∀ c, c < w.heap.size → ¬ W.fs i c → w'.heap[c]? = w.heap[c]?) Q := by
  have hi : i < R.length := by
    rcases Nat.lt_or_ge i R.length with h' | h'
    · exact h'
    · rw [List.getElem?_eq_none h'] at hR; cases hR
  obtain ⟨ad, c, inner, e1, e2, e3, e4, e5⟩ := src_of hn' hy hnews
  obtain ⟨inf, z, z1, z2, z3, z4, rfl, z6⟩ := by_parts hty hby hz
  have hzk : z.cells.size = k := by have := hzl.1; simpa using this
  have hxv := hn'.ev x
  rw [hx] at hxv
  obtain ⟨f1, f2, cells, G, f3, f4, f5, f6⟩ := hn'.sep.res i _ hR
  have hv : a.eval x = W.hs i := by
    cases hxv with
    | sl h1 h2 h3 _ =>
      obtain ⟨ad', n', c', k1, k2, k3⟩ := (h3 _ _ _ hR).2 hn
      obtain ⟨ad2, c2, g1, g2, g3, _, g4⟩ := ownsRow_reads f3
      rcases k3 with k3 | ⟨rfl, h0, _⟩
      · rw [k1] at g1
        obtain ⟨rfl, rfl, rfl⟩ : ad' = ad2 ∧ n' = rows.length ∧ c' = c2 := by cases g1; exact ⟨rfl, rfl, rfl⟩
        rw [k3, k1, hn]
        simp only [Nat.zero_mul, Nat.sub_zero]
        congr 1
        cases ad' with
        | none => rfl
        | some q =>
          rcases f3.2 with ⟨g5, _⟩ | ⟨g, cap, cur, g5, _⟩
          · rw [k1] at g5; cases g5
          · rw [k1] at g5
            have : q = ⟨g, 0, none⟩ := by cases g5; rfl
            rw [this]; rfl
      · omega
  have hrun : ∀ v' w', (Builtin.append_ #[t, t] o.type #[W.hs i, .slice ad news.length c]).run P w = .ok v' w' → (execOp a.eval o).run P w = .ok (.value v') w' := fun v' w' hr => by
    simp only [execOp, ho, resolve, Sem.run_bind, Sem.run_pure, Result.andThen_ok, invoke, builtin]
    simp only [List.map_toArray, List.map_cons, List.map_nil, hv, e1, hr, Result.andThen_ok]
  unfold Oper.wp
  by_cases h0 : news = []
  · subst h0
    rw [hrun _ _ (run_append_zero (isSlice_of ht) hty f3 ad c), Oper.upon_value, hd]
    have e0 : R.set i (.row e k (rows ++ [])) = R := by
      rw [List.append_nil]
      apply List.ext_getElem?
      intro j
      by_cases hj : i = j
      · subst hj; rw [List.getElem?_set_self hi, hR]
      · rw [List.getElem?_set_ne hj]
    rw [e0]
    exact ⟨W, hn'.put hN (by
      show AVR W R w (.c (.sl i 0 (n + 0) (n + 0))) (W.hs i)
      rw [← hv]; exact hxv), .refl .., fun _ _ _ => rfl⟩
  · have hpos : 0 < news.length := List.length_pos_iff.2 h0
    obtain ⟨b, oo, rfl, hc⟩ := e3 hpos
    obtain ⟨v', w', r1, r2, r3, r4, r5⟩ := run_append_own_at (P := P) w 0 t o.type e inf z k bytes (isSlice_of ht) z1 z2 z3 z4 hzk hzl.2 (W.hs i) rows.length cells f3 ⟨b, oo, none⟩ news.length c inner e2 (fun j u hj => by rw [add_plain]; exact hc j u hj) e4 (by rw [hn]; unfold maxLen; omega) (by rw [hn]; exact hsz.2) (Nat.zero_le _)
    rw [hrun _ _ r1, Oper.upon_value, hd]
    have hGlt : ∀ b, G b → b < w.heap.size := fun b hb => hn'.sep.lt i b ((f6 b).2 (.inr hb))
    let W' : Wit := ⟨fun j => if j = i then v' else W.hs j, fun j => if j = i then (fun b => v'.ownBlock = some b ∨ G b) else W.fs j⟩
    have wh : W'.hs i = v' := by simp [W']
    have wf : W'.fs i = fun b => v'.ownBlock = some b ∨ G b := by simp [W']
    have wh' : ∀ j, j ≠ i → W'.hs j = W.hs j := fun j hj => by simp [W', hj]
    have wf' : ∀ j, j ≠ i → W'.fs j = W.fs j := fun j hj => by simp [W', hj]
    have hblk : ∀ c, c < w.heap.size → ¬ W.fs i c → w'.heap[c]? = w.heap[c]? := fun c hc1 hc2 => r3.block c hc1 fun e => hc2 ((f6 c).2 (.inl e.symm))
    have hvlt : ∀ b, v'.ownBlock = some b → W.fs i b ∨ w.heap.size ≤ b := fun b hb => by
      rcases r5 with r5 | r5
      · rw [r5] at hb; exact .inl ((f6 b).2 (.inl hb))
      · rw [r5] at hb; cases hb; exact .inr (Nat.le_refl _)
    have tr : Trans w W R w' W' (R.set i (.row e k (rows ++ news))) := by
      refine ⟨r3.os, r3.tape, r3.output, r3.size, fun c hc' => hblk c hc'.1 (hc'.2 i), fun j c hj => ?_, fun j => ?_⟩
      · by_cases e : j = i
        · subst e
          rw [wf] at hj
          rcases hj with hj | hj
          · rcases hvlt c hj with h' | h'
            · exact .inl ⟨_, h'⟩
            · exact .inr h'
          · exact .inl ⟨_, (f6 c).2 (.inr hj)⟩
        · rw [wf' j e] at hj; exact .inl ⟨j, hj⟩
      · by_cases e' : i = j
        · subst e'
          rw [List.getElem?_set_self hi, hR]
          exact ⟨rfl, rfl, by simp, fun e => by simp at e; exact absurd e h0⟩
        · rw [List.getElem?_set_ne e', wh' j (Ne.symm e')]
          exact Goes.refl _ _
    have hres : ResRel w' W' (R.set i (.row e k (rows ++ news))) v' (fun b => v'.ownBlock = some b ∨ G b) (.row e k (rows ++ news)) := by
      refine ⟨f1, fun r hr => by rcases List.mem_append.1 hr with hr | hr; exact f2 r hr; exact (hnews r hr).1, cells ++ inner, G, by rw [List.length_append]; exact r2, ?_, fun b hb hg => ?_, fun b => Iff.rfl⟩
      · rw [List.flatten_append]
        have hm : Ow w' rows.flatten cells G := f4.mono fun b hb => r3.block b (hGlt b hb) fun e => f5 b e.symm hb
        obtain ⟨H, k1, k2⟩ := hm.append (e5 w') (fun b _ h => h)
        have : H = G := by funext b; exact propext ((k2 b).trans (by simp))
        rw [this] at k1; exact k1
      · rcases r5 with r5 | r5
        · rw [r5] at hb; exact f5 b hb hg
        · rw [r5] at hb; cases hb; exact absurd (hGlt _ hg) (Nat.lt_irrefl _)
    have sp : Sep w' W' (R.set i (.row e k (rows ++ news))) :=
      hn'.sep.step tr i (fun j h1 _ => by simpa using h1) (fun j h1 _ => List.getElem?_set_ne (Ne.symm h1)) wh' (fun j h1 b => by rw [wf' j h1]) (fun j h1 c hc' => hblk c (hn'.sep.lt j c hc') fun e => h1 (hn'.sep.apart j i c hc' e))
        (fun q hq => by
          rw [List.getElem?_set_self hi] at hq
          obtain rfl := Option.some.inj hq
          rw [wh, wf]; exact hres)
        (fun b hb => by
          rw [wf] at hb
          rcases hb with hb | hb
          · exact hvlt b hb
          · exact .inl ((f6 b).2 (.inr hb)))
        (fun b hb => by
          rw [wf] at hb
          rcases hb with hb | hb
          · exact (r2.lt b hb).2
          · exact Nat.lt_of_lt_of_le (hGlt b hb) r3.size)
        (fun h' => absurd hi (by simp at h'; omega)) (fun h' => by rw [List.getElem?_set_self hi] at h'; cases h')
    exact ⟨W', (hn'.next tr sp).put hN (sl_whole (e := e) (k := k) (rows := rows ++ news) (List.getElem?_set_self hi) (by rw [List.length_append, hn]) wh (by
      rcases r2.2 with ⟨rfl, _⟩ | ⟨g, cap, cur, rfl, _⟩ <;> rfl) sp), tr, hblk⟩
end

/-- An own slice grows; the variables that are listed hold what they held. -/
theorem d_append {P : Program} {N : Nat} {ops : Array Oper} {s : Slots} {R RB : List Res} {K : Slots → List Res → Prop} {fuel : Nat} {listed listed' : Array Bool} {ks : List Nat} (ii : Nat) {o : Oper} {d t e k bytes i n : Nat} {x y : Operand} {bb : Bool} {zs : List AC} {rows news : List (List T)} (hi : ops[ii]? = some o) (hw : want ops o s = some true)
    (ho : o.op = .call { callee := .builtin .append, args := #[x, y], argTypes := #[t, t] }) (hd : o.dst = some d)
    (ht : isSlice P t = some e) (hty : tyIs P e = some (bb, k)) (hby : (P.info? e).map (·.bytes) = some bytes) (hz : zav P e = some zs) (hzl : zs.length = k ∧ 0 < k) (hx : ev s x = .c (.sl i 0 n n)) (hR : R[i]? = some (.row e k rows)) (hn : rows.length = n)
    (hy : E.lend R (ev s y) = .c (.ro news)) (hnews : ∀ r ∈ news, r.length = k ∧ r.all isSc = true) (hsz : n + news.length ≤ 9223372036854775807 ∧ (n + news.length) * bytes ≤ 140737488355328)
    (h : EAnyD P N ops ks RB fuel listed' ((d, .c (.sl i 0 (n + news.length) (n + news.length))) :: s) (R.set i (.row e k (rows ++ news))) K) (hN : d < N := by decide) (hk : boxKeep RB R = true := by rfl) (hib : ks.contains i = false := by rfl) (hl : listed.setIfInBounds ii true = listed' := by rfl) : DStep P N ops ii ks RB fuel listed s R K := by
  subst hl
  intro G wB WB a w W hsB htr hnow hb hc hj hq
  have hc' := hc.step hj
  unfold wpOp
  simp only [hi, want_real hnow hw, if_true]
  refine .inl (Oper.wp_mono (fun a' w' hh => ?_) (append_wp ho hd hN ht hty hby hz hzl hx hR hn hy hnews hsz hnow))
  obtain ⟨W', h2, h3, h4⟩ := hh
  have hb' : BoxK ks RB WB wB w' := hb.next hsB htr hnow.sep hk fun q hq' c hc2 => h4 c (hnow.sep.lt q c hc2) fun hic => by
    obtain rfl := hnow.sep.apart _ _ _ hc2 hic
    have hm : ks.contains q = true := by simpa using hq'
    rw [hm] at hib; cases hib
  exact ⟨hb', h G wB WB a' w' W' hsB (htr.trans h3) h2 hb' hc' fun a'' w'' hr' => hq a'' w'' (hr'.after h3)⟩

/-- An operation before or behind which all others have to come: what may be read at any time is told anew. -/
theorem d_dom {P : Program} {N : Nat} {ops : Array Oper} {s : Slots} {R RB : List Res} {K : Slots → List Res → Prop} {fuel : Nat} {listed listed' : Array Bool} {ks : List Nat} (i : Nat) (ks' : List Nat) {o : Oper} (hi : ops[i]? = some o) (hw : want ops o s = some true)
    (h : EOp P N o s R fun s' R' => EAnyD P N ops ks' R' fuel listed' s' R' K) (hd : domB .any ops i = true := by kernel_rfl) (hr : Region.ready .any ops listed = [i] := by kernel_rfl) (hl : listed.setIfInBounds i true = listed' := by rfl) : EAnyD P N ops ks RB (fuel + 1) listed s R K := by
  subst hl
  intro G wB WB a w W hsB ht hn hb hc hq
  refine ⟨fun h0 => (by rw [hr] at h0; cases h0), fun k hk => ?_⟩
  obtain rfl : k = i := by rw [hr] at hk; simpa using hk
  have hc' := hc.step hk
  unfold wpOp
  simp only [hi, want_real hn hw, if_true]
  refine .inl (Oper.wp_mono (fun a' w' hh => ?_) (h _ a w W hn))
  obtain ⟨s', R', W', h2, h3, h4⟩ := hh
  exact .inr ⟨dom_of hd, BoxK ks' R' W' w', fun _ _ _ _ _ _ => rfl, h2 G w' W' a' w' W' h3.sep (.refl ..) h3 (fun _ _ _ _ _ _ => rfl) hc' fun a'' w'' hr' => hq a'' w'' (hr'.after h4)⟩

/-! Bits -/
def bitI (op : BinOp) (u v : Int) : Int := match op with
  | .and => IntKind.i64.wrap (BitVec.ofInt 64 u &&& BitVec.ofInt 64 v).toNat
  | .xor => IntKind.i64.wrap (BitVec.ofInt 64 u ^^^ BitVec.ofInt 64 v).toNat
  | _ => 0
theorem and_bd (u : Int) {m : Int} (h0 : 0 ≤ m) (h1 : m ≤ 9223372036854775807) : 0 ≤ bitI .and u m ∧ bitI .and u m ≤ m := by
  have h2 : (BitVec.ofInt 64 u &&& BitVec.ofInt 64 m).toNat ≤ m.toNat := by
    rw [BitVec.toNat_and]
    have h3 : (BitVec.ofInt 64 m).toNat = m.toNat := by rw [BitVec.toNat_ofInt]; congr 1; exact Int.emod_eq_of_lt h0 (by omega)
    rw [h3]; exact Nat.and_le_right
  simp only [bitI]
  generalize (BitVec.ofInt 64 u &&& BitVec.ofInt 64 m).toNat = q at h2
  have h4 : IntKind.i64.wrap (q : Int) = q := wrap_id (by omega) (by omega)
  rw [h4]; omega
theorem L_and {P : Program} {s : Slots} {R : List Res} {o : Oper} {t t' : Nat} {x y : Operand} {u v : Int} (ho : o.op = .binOp .and t x y t') (hx : E.ev s x = .c (.sc (.int .i64 u))) (hy : E.ev s y = .c (.sc (.int .i64 v))) : Pure P o s R (.c (.sc (.int .i64 (bitI .and u v)))) := fun N a w W hn =>
  ⟨.int .i64 (bitI .and u v), AR.sc1 (v := .int .i64 (bitI .and u v)) rfl, fun w' => by
    have hr : (do eqGuard .and t x y (.int .i64 u) (.int .i64 v); binOp .and t (.int .i64 u) (.int .i64 v)).run P w' = .ok (.int .i64 (bitI .and u v)) w' := by
      simp only [eqGuard, binOp, Op.intBits, bitI, Sem.run_bind]
      rfl
    simp only [execOp, ho, hn.sc hx, hn.sc hy]
    simp only [Sem.run_bind] at hr ⊢
    rw [hr]; rfl⟩
theorem L_xor {P : Program} {s : Slots} {R : List Res} {o : Oper} {t t' : Nat} {x y : Operand} {u v : Int} (ho : o.op = .binOp .xor t x y t') (hx : E.ev s x = .c (.sc (.int .i64 u))) (hy : E.ev s y = .c (.sc (.int .i64 v))) : Pure P o s R (.c (.sc (.int .i64 (bitI .xor u v)))) := fun N a w W hn =>
  ⟨.int .i64 (bitI .xor u v), AR.sc1 (v := .int .i64 (bitI .xor u v)) rfl, fun w' => by
    have hr : (do eqGuard .xor t x y (.int .i64 u) (.int .i64 v); binOp .xor t (.int .i64 u) (.int .i64 v)).run P w' = .ok (.int .i64 (bitI .xor u v)) w' := by
      simp only [eqGuard, binOp, Op.intBits, bitI, Sem.run_bind]
      rfl
    simp only [execOp, ho, hn.sc hx, hn.sc hy]
    simp only [Sem.run_bind] at hr ⊢
    rw [hr]; rfl⟩
def shrI (u v : Int) : Int := u.fdiv (2 ^ (min v.toNat 64))
theorem L_shr {P : Program} {s : Slots} {R : List Res} {o : Oper} {t t' : Nat} {x y : Operand} {u v : Int} (ho : o.op = .binOp .shr t x y t') (hx : E.ev s x = .c (.sc (.int .i64 u))) (hy : E.ev s y = .c (.sc (.int .u64 v))) (hv : 0 ≤ v := by decide) : Pure P o s R (.c (.sc (.int .i64 (shrI u v)))) := fun N a w W hn =>
  ⟨.int .i64 (shrI u v), AR.sc1 (v := .int .i64 (shrI u v)) rfl, fun w' => by
    have hr : (do eqGuard .shr t x y (.int .i64 u) (.int .u64 v); binOp .shr t (.int .i64 u) (.int .u64 v)).run P w' = .ok (.int .i64 (shrI u v)) w' := by
      have : ¬ v < 0 := by omega
      simp [eqGuard, binOp, Op.shift, shrI, IntKind.bits, this]
    simp only [execOp, ho, hn.sc hx, hn.sc hy]
    simp only [Sem.run_bind] at hr ⊢
    rw [hr]; rfl⟩
/-- A byte taken for an integer. -/
theorem L_conv {P : Program} {s : Slots} {R : List Res} {o : Oper} {t t' : Nat} {x : Operand} {u : Int} {k : IntKind} (ho : o.op = .convert t t' x) (ht : P.underlying t = some (.int .u8)) (ht' : P.underlying t' = some (.int .i64)) (hx : E.ev s x = .c (.sc (.int k u))) (hu : -9223372036854775808 ≤ u ∧ u ≤ 9223372036854775807) : Pure P o s R (.c (.sc (.int .i64 u))) := fun N a w W hn =>
  ⟨.int .i64 u, AR.sc1 (v := .int .i64 u) rfl, fun w' => by
    have hwr : IntKind.i64.wrap u = u := wrap_id hu.1 hu.2
    simp only [execOp, ho, hn.sc hx, convert, Sem.run_bind, run_underlying_ ht, run_underlying_ ht', Result.andThen_ok, Conv.intToInt, hwr]
    rfl⟩
end Go.Proofs.YtlodlnbhjghjoaaGreat.E
