/- Walks of the functions that the law reaches: by programs of this session, over a tool's print. -/
import Derived.Test.YtphicebbbkjdhaaDoorGFnExactRingOkx0
import Derived.Test.YtphicebbbkjdhaaDoorGFnExactRingOkx2
namespace Go.Proofs.YtphicebbbkjdhaaDoor.GFnExactRingOk
open Go.RowKit Go.Proofs.YtphicebbbkjdhaaDoorW.PrintWords Go.Proofs.YtphicebbbkjdhaaDoorW.PrintLast Go.Proofs.YtphicebbbkjdhaaDoorW.PrintMore
attribute [local go_sem] max2_int min2_int max_two min_two max_three min_three max_four min_four   -- for this text's walks alone
set_option linter.unusedVariables false
set_option linter.unusedSimpArgs false


section
/-- A kind whose elements hold no rows of their own: its cells are told by the element. -/
structure Flat {α : Type} (d : Kd α) (enc : α → List Value) : Prop where
  E : d.E = []
  K : ∀ w x cs, d.K w x cs ↔ cs = enc x
  M : ∀ w base ok x cs, d.M w base ok x cs ↔ cs = enc x
  len : ∀ x, (enc x).length = d.sz
  one : ∀ x, ∀ v ∈ enc x, v.oneCell' = true
theorem take_drop_flat {α : Type} (enc : α → List Value) (sz : Nat) (hl : ∀ x, (enc x).length = sz) : ∀ (xs : List α) (j : Nat) (x : α), xs[j]? = some x → ((xs.flatMap enc).drop (j * sz)).take sz = enc x
  | [], j, x, h => by simp at h
  | y :: ys, 0, x, h => by
    obtain rfl := Option.some.inj h
    rw [List.flatMap_cons, Nat.zero_mul, List.drop_zero, List.take_left' (hl y)]
  | y :: ys, j + 1, x, h => by
    rw [List.flatMap_cons, Nat.succ_mul, Nat.add_comm, ← List.drop_drop, List.drop_left' (hl y)]
    exact take_drop_flat enc sz hl ys j x h
theorem flat_length {α : Type} (enc : α → List Value) (sz : Nat) (hl : ∀ x, (enc x).length = sz) : ∀ (xs : List α), (xs.flatMap enc).length = xs.length * sz
  | [] => by simp
  | y :: ys => by rw [List.flatMap_cons, List.length_append, hl, flat_length enc sz hl ys, List.length_cons, Nat.succ_mul, Nat.add_comm]
theorem reps_flat {α : Type} (enc : α → List Value) (sz : Nat) (hl : ∀ x, (enc x).length = sz) {R : α → List Value → Prop} (hR : ∀ x cs, R x cs ↔ cs = enc x) :
    ∀ (xs : List α) (cs : List Value), Reps R sz xs cs ↔ cs = xs.flatMap enc
  | [], cs => by
    constructor
    · rintro ⟨h, _⟩
      rw [List.length_nil, Nat.zero_mul] at h
      rw [List.eq_nil_of_length_eq_zero h]; rfl
    · rintro rfl; exact Reps.none _ _
  | y :: ys, cs => by
    constructor
    · rintro ⟨h, hr⟩
      have h0 : cs.take sz = enc y := by
        have := (hR _ _).1 (hr 0 y rfl)
        rwa [Nat.zero_mul, List.drop_zero] at this
      have h1 := (reps_flat enc sz hl hR ys (cs.drop sz)).1 ⟨by rw [List.length_drop, h, List.length_cons, Nat.succ_mul]; omega, fun j p hj => by
        have := hr (j + 1) p hj
        rwa [Nat.succ_mul, Nat.add_comm, ← List.drop_drop] at this⟩
      rw [List.flatMap_cons, ← h0, ← h1, List.take_append_drop]
    · rintro rfl
      exact ⟨flat_length enc sz hl _, fun j p hj => (hR _ _).2 (take_drop_flat enc sz hl _ j p hj)⟩
/-- A row of flat elements of the call's own, block and all. -/
theorem row_flat {α : Type} {d : Kd α} {enc : α → List Value} (F : Flat d enc) {e base : Nat} {ok : Nat → Prop} {w : World} {A : Option Addr} {n c : Nat} {xs : List α} (h : d.R e w base ok (.slice A n c) xs) :
    n = xs.length ∧ ((A = none ∧ n = 0 ∧ c = 0) ∨ ∃ g cur, A = some ⟨g, 0, none⟩ ∧ ok g ∧ base ≤ g ∧ w.heap[g]? = some (.cells cur e (0, 0)) ∧ n ≤ c ∧ c ≤ maxLen ∧ cur.size = c * d.sz ∧ cur.toList.take (n * d.sz) = xs.flatMap enc) := by
  obtain ⟨h0, inner, ⟨hlen, ho⟩, hr⟩ := h
  obtain rfl := (reps_flat enc d.sz F.len (fun x cs => F.M _ _ _ x cs) xs inner).1 hr
  rcases ho with ⟨hv, hn⟩ | ⟨g, cap, cur, hv, hb, hc, hn, hm, hs, ht⟩
  · obtain ⟨rfl, rfl, rfl⟩ := Value.slice.inj hv
    exact ⟨hn.symm, .inl ⟨rfl, rfl, rfl⟩⟩
  · obtain ⟨rfl, rfl, rfl⟩ := Value.slice.inj hv
    exact ⟨rfl, .inr ⟨g, cur, rfl, h0 g rfl, hb, hc, hn, hm, hs, ht⟩⟩
theorem flat_row {α : Type} {d : Kd α} {enc : α → List Value} (F : Flat d enc) {e base : Nat} {ok : Nat → Prop} {w : World} {g n c : Nat} {cur : Array Value} {xs : List α} (hk : ok g) (hb : base ≤ g)
    (hc : w.heap[g]? = some (.cells cur e (0, 0))) (hn : n = xs.length) (hnc : n ≤ c) (hm : c ≤ maxLen) (hs : cur.size = c * d.sz) (ht : cur.toList.take (n * d.sz) = xs.flatMap enc) :
    d.R e w base ok (.slice (some ⟨g, 0, none⟩) n c) xs := by
  subst hn
  refine ⟨fun k hk' => ?_, xs.flatMap enc, ⟨flat_length enc d.sz F.len xs, .inr ⟨g, c, cur, rfl, hb, hc, hnc, hm, hs, ht⟩⟩, (reps_flat enc d.sz F.len (fun x cs => F.M _ _ _ x cs) xs _).2 rfl⟩
  simp [Value.ownBlock] at hk'; rw [← hk']; exact hk
/-- A row that is read: its cells. -/
theorem read_flat {α : Type} {d : Kd α} {enc : α → List Value} (F : Flat d enc) {w : World} {A : Option Addr} {n : Nat} {xs : List α} (h : d.C w A n xs) (hp : 0 < n) :
    ∃ ad, A = some ad ∧ ∀ j v, (xs.flatMap enc)[j]? = some v → w.cell? (ad.add j) = some v := by
  obtain ⟨h1, _, h2⟩ := h
  obtain ⟨ad, e, hc⟩ := h2 hp
  refine ⟨ad, e, fun j v hj => ?_⟩
  have hjl : j < xs.length * d.sz := by
    have := (List.getElem?_eq_some_iff.1 hj).1
    rwa [flat_length enc d.sz F.len] at this
  have hs : 0 < d.sz := by
    rcases Nat.eq_zero_or_pos d.sz with h | h
    · rw [h, Nat.mul_zero] at hjl; omega
    · exact h
  have hq : j / d.sz < xs.length := Nat.div_lt_of_lt_mul (by rwa [Nat.mul_comm] at hjl)
  obtain ⟨c, hc1, hc2, hc3⟩ := hc (j / d.sz) xs[j / d.sz] (List.getElem?_eq_getElem hq)
  obtain rfl := (F.K _ _ _).1 hc2
  have ht := take_drop_flat enc d.sz F.len xs (j / d.sz) _ (List.getElem?_eq_getElem hq)
  have hm := Nat.mod_lt j hs
  have hdm := Nat.div_add_mod' j d.sz
  have := hc3 (j % d.sz) v (by
    rw [← ht, List.getElem?_take, if_pos hm, List.getElem?_drop, hdm]
    exact hj)
  rwa [hdm] at this
theorem read_flat' {α : Type} {d : Kd α} {enc : α → List Value} (F : Flat d enc) {w : World} {ad : Addr} {n : Nat} {xs : List α} (h : d.C w (some ad) n xs) (hp : 0 < n) (j : Nat) (v : Value) (hj : (xs.flatMap enc)[j]? = some v) : w.cell? (ad.add j) = some v := by
  obtain ⟨ad', e, hc⟩ := read_flat F h hp
  obtain rfl := Option.some.inj e
  exact hc j v hj
/-- Cells of a block, told as a list. -/
theorem blk_list {w : World} {g e : Nat} {cur : Array Value} (hc : w.heap[g]? = some (.cells cur e (0, 0))) {cs : List Value} {m : Nat} (ht : cur.toList.take m = cs) (j : Nat) (v : Value) (hj : cs[j]? = some v) : w.cell? ⟨g, j, none⟩ = some v := by
  rw [blk_cell hc j]
  subst ht
  rw [List.getElem?_take] at hj
  split at hj
  · rw [← Array.getElem?_toList]; exact hj
  · cases hj
/-- An element is stored over. -/
theorem flat_set {α : Type} (enc : α → List Value) (sz : Nat) (hl : ∀ x, (enc x).length = sz) : ∀ (xs : List α) (i : Nat) (x : α), i < xs.length → (xs.set i x).flatMap enc = (xs.flatMap enc).take (i * sz) ++ enc x ++ (xs.flatMap enc).drop (i * sz + sz)
  | [], i, x, h => absurd h (Nat.not_lt_zero _)
  | y :: ys, 0, x, h => by
    rw [List.set_cons_zero, List.flatMap_cons, List.flatMap_cons, Nat.zero_mul, List.take_zero, List.nil_append, Nat.zero_add, List.drop_left' (hl y)]
  | y :: ys, i + 1, x, h => by
    have hy := hl y
    rw [List.set_cons_succ, List.flatMap_cons, List.flatMap_cons, flat_set enc sz hl ys i x (by simpa using h), show (i + 1) * sz = (enc y).length + i * sz by rw [Nat.succ_mul, hy]; omega, Nat.add_assoc, List.take_length_add_append, List.drop_length_add_append]
    simp only [List.append_assoc]
end

/-- One cell of one element is stored over. -/
theorem flat_cell {α : Type} (enc : α → List Value) (sz : Nat) (hl : ∀ x, (enc x).length = sz) : ∀ (xs : List α) (i j : Nat) (x x' : α) (v : Value), xs[i]? = some x → j < sz → enc x' = (enc x).set j v → (xs.set i x').flatMap enc = (xs.flatMap enc).set (i * sz + j) v
  | [], i, j, x, x', v, h, _, _ => by simp at h
  | y :: ys, 0, j, x, x', v, h, hj, he => by
    obtain rfl := Option.some.inj h
    rw [List.set_cons_zero, List.flatMap_cons, List.flatMap_cons, Nat.zero_mul, Nat.zero_add, he, List.set_append_left _ _ (by rw [hl]; exact hj)]
  | y :: ys, i + 1, j, x, x', v, h, hj, he => by
    rw [List.set_cons_succ, List.flatMap_cons, List.flatMap_cons, flat_cell enc sz hl ys i j x x' v (by simpa using h) hj he, List.set_append_right _ _ (by rw [hl, Nat.succ_mul]; omega)]
    congr 2
    rw [hl, Nat.succ_mul]; omega
theorem flat_put {α : Type} {d : Kd α} {enc : α → List Value} (F : Flat d enc) {e base : Nat} {ok : Nat → Prop} {w : World} {g n c : Nat} {xs : List α} (h : d.R e w base ok (.slice (some ⟨g, 0, none⟩) n c) xs)
    {i j : Nat} {x x' : α} {v : Value} (hi : xs[i]? = some x) (hj : j < d.sz) (he : enc x' = (enc x).set j v) : d.R e (w.setCell ⟨g, i * d.sz + j, none⟩ v) base ok (.slice (some ⟨g, 0, none⟩) n c) (xs.set i x') := by
  obtain ⟨hn, ho⟩ := row_flat F h
  subst hn
  rcases ho with ⟨hA, _⟩ | ⟨g', cur, hA, hk, hb, hc, hn, hm, hs, ht⟩
  · cases hA
  · obtain rfl : g = g' := by injection hA with hA; injection hA
    refine flat_row F hk hb (blk_set hc (i * d.sz + j) v) (by simp) hn hm (by simp [hs]) ?_
    rw [Array.toList_setIfInBounds, flat_cell enc d.sz F.len xs i j x x' v hi hj he, ← ht, List.take_set]
section
/-! ### Memory in parts, none of which lies in another -/
structure Part where
  foot : Nat → Prop
  holds : World → Nat → Prop
  keep : ∀ {w w' : World} {b : Nat}, (∀ k, foot k → w'.heap[k]? = w.heap[k]?) → holds w b → holds w' b
  bound : ∀ {w : World} {b : Nat}, holds w b → ∀ k, foot k → b ≤ k ∧ k < w.heap.size
  lower : ∀ {w : World} {b b' : Nat}, b' ≤ b → holds w b → holds w b'
/-- A row whose elements hold no rows of their own. -/
def Part.row {α : Type} (d : Kd α) (e : Nat) (v : Value) (xs : List α) : Part where
  foot k := v.ownBlock = some k
  holds w b := d.R e w b (fun k => some k = v.ownBlock) v xs
  keep hm h := Kd.R_move h (fun k hk => hm k hk.symm)
  bound h k hk := ⟨Kd.R_base h k hk, Kd.R_lt h k hk⟩
  lower hb h := Kd.R_lower h hb
/-- A block of cells. -/
def Part.blk (g t : Nat) (cs : Array Value) : Part where
  foot k := k = g
  holds w b := b ≤ g ∧ w.heap[g]? = some (.cells cs t (0, 0))
  keep hm h := ⟨h.1, (hm _ rfl).trans h.2⟩
  bound h k hk := by subst hk; exact ⟨h.1, blk_lt h.2⟩
  lower hb h := ⟨Nat.le_trans hb h.1, h.2⟩
theorem Part.of_R {α : Type} {d : Kd α} {e b : Nat} {ok : Nat → Prop} {w : World} {v : Value} {xs : List α} (hE : d.E = []) (h : d.R e w b ok v xs) : (Part.row d e v xs).holds w b := by
  obtain ⟨h0, inner, ho, hr⟩ := Kd.R_bound h
  refine ⟨fun k hk => hk.symm, inner, ho, hr.imp_ (fun _ _ hp => d.M_mono (fun k hk => ?_) (d.M_bound hp))⟩
  obtain ⟨_, _, _, q, hq, _⟩ := hk
  rw [hE] at hq
  exact absurd hq (by simp)
/-- The memory made since w0: parts apart from each other. -/
structure St (w0 w : World) (ps : List Part) : Prop where
  below : Below w0.heap.size w0 w
  all : ∀ p ∈ ps, p.holds w w0.heap.size
  apart : ps.Pairwise (fun p q => ∀ k, p.foot k → ¬ q.foot k)
theorem St.start (w : World) : St w w [] := ⟨Below.refl _ _, by simp, List.Pairwise.nil⟩
section
variable {w0 w w' : World} {ps : List Part}
theorem St.move (h : St w0 w ps) (hb : Below w0.heap.size w0 w') (hm : ∀ p ∈ ps, ∀ k, p.foot k → w'.heap[k]? = w.heap[k]?) : St w0 w' ps := ⟨hb, fun p hp => p.keep (hm p hp) (h.all p hp), h.apart⟩
theorem St.step (h : St w0 w ps) (hb : Below w.heap.size w w') : St w0 w' ps := h.move (below_step h.below hb) (fun p hp k hk => hb.block k (p.bound (h.all p hp) k hk).2)
theorem St.drew (h : St w0 w ps) : St w0 w.drew ps := h.step (below_drew1 (Below.refl _ _))
theorem St.drewN (h : St w0 w ps) (n : Nat) : St w0 (w.drewN n) ps := h.step (pw_below_drewN (Below.refl _ _) n)
theorem St.tail {p : Part} (h : St w0 w (p :: ps)) : St w0 w ps := ⟨h.below, fun q hq => h.all q (List.mem_cons_of_mem _ hq), (List.pairwise_cons.1 h.apart).2⟩
theorem St.head {p : Part} (h : St w0 w (p :: ps)) : p.holds w w0.heap.size := h.all p (by simp)
theorem St.away {p : Part} (h : St w0 w (p :: ps)) : ∀ q ∈ ps, ∀ k, p.foot k → ¬ q.foot k := (List.pairwise_cons.1 h.apart).1
/-- A new part. -/
theorem St.new {p : Part} (h : St w0 w ps) (hb : Below w.heap.size w w') (hp : p.holds w' w.heap.size) : St w0 w' (p :: ps) := by
  have h' := h.step hb
  refine ⟨h'.below, fun q hq => ?_, List.pairwise_cons.2 ⟨fun q hq k hk hq' => ?_, h'.apart⟩⟩
  · rcases List.mem_cons.1 hq with rfl | hq
    · exact q.lower h.below.size hp
    · exact h'.all q hq
  · have h1 := (p.bound hp k hk).1
    have h2 := (q.bound (h.all q hq) k hq').2
    omega
theorem St.new_row {α : Type} {d : Kd α} {e : Nat} {ok : Nat → Prop} {v : Value} {xs : List α} (hE : d.E = []) (h : St w0 w ps) (hb : Below w.heap.size w w') (hr : d.R e w' w.heap.size ok v xs) : St w0 w' (Part.row d e v xs :: ps) := h.new hb (Part.of_R hE hr)
theorem St.new_blk {g t : Nat} {cs : Array Value} (h : St w0 w ps) (hb : Below w.heap.size w w') (hg : w.heap.size ≤ g) (hc : w'.heap[g]? = some (.cells cs t (0, 0))) : St w0 w' (Part.blk g t cs :: ps) := h.new (p := Part.blk g t cs) hb ⟨hg, hc⟩
/-- A row that is nowhere. -/
theorem St.nil_row {α : Type} (d : Kd α) (e : Nat) (h : St w0 w ps) : St w0 w (Part.row d e (.slice none 0 0) [] :: ps) :=
  ⟨h.below, fun q hq => (List.mem_cons.1 hq).elim (fun e' => e' ▸ Kd.R_nil d e w _ _) (h.all q), List.pairwise_cons.2 ⟨fun q _ k hk => by simp [Part.row, Value.ownBlock] at hk, h.apart⟩⟩
theorem St.perm {qs : List Part} (h : St w0 w ps) (hp : qs.Perm ps) : St w0 w qs := ⟨h.below, fun p hq => h.all p (hp.mem_iff.1 hq), (hp.pairwise_iff (fun hab k hk hk' => hab k hk' hk)).2 h.apart⟩
theorem St.swap {p q : Part} (h : St w0 w (p :: q :: ps)) : St w0 w (q :: p :: ps) := h.perm (List.Perm.swap _ _ _)
theorem St.sub {qs : List Part} (h : St w0 w ps) (hs : qs.Sublist ps) : St w0 w qs := ⟨h.below, fun p hp => h.all p (hs.subset hp), h.apart.sublist hs⟩
theorem perm_at {α : Type _} : ∀ (l : List α) (i : Nat) (h : i < l.length), (l[i] :: l.eraseIdx i).Perm l
  | a :: l, 0, _ => List.Perm.refl _
  | a :: l, i + 1, h => (List.Perm.swap _ _ _).trans ((perm_at l i (by simpa using h)).cons a)
/-- One part comes to the front. -/
theorem St.front {p : Part} {qs : List Part} (i : Nat) (h : St w0 w ps) (e : ps[i]? = some p) (e' : ps.eraseIdx i = qs) : St w0 w (p :: qs) := by
  subst e'
  refine h.perm ?_
  obtain ⟨hi, rfl⟩ := List.getElem?_eq_some_iff.1 e
  exact (perm_at _ _ hi)
theorem St.back {p : Part} {qs : List Part} (i : Nat) (h : St w0 w (p :: ps)) (e : qs[i]? = some p) (e' : qs.eraseIdx i = ps) : St w0 w qs := by
  subst e'
  refine h.perm ?_
  obtain ⟨hi, rfl⟩ := List.getElem?_eq_some_iff.1 e
  exact (perm_at _ _ hi).symm
/-- A block's cells. -/
theorem St.cell {g t : Nat} {cs : Array Value} (h : St w0 w (Part.blk g t cs :: ps)) (j : Nat) {v : Value} (e : cs[j]? = some v) : w.cell? ⟨g, j, none⟩ = some v := (blk_cell h.head.2 j).trans e
theorem St.frozen {g t : Nat} {cs : Array Value} (h : St w0 w (Part.blk g t cs :: ps)) (j : Nat) : w.frozen? ⟨g, j, none⟩ = false := blk_frozen h.head.2 j
theorem St.put {g t : Nat} {cs cs' : Array Value} (h : St w0 w (Part.blk g t cs :: ps)) (j : Nat) (u : Value) (e : cs.setIfInBounds j u = cs') : St w0 (w.setCell ⟨g, j, none⟩ u) (Part.blk g t cs' :: ps) := by
  subst e
  have hb := below_set (j := j) (v := u) h.below h.head.1
  refine ⟨hb, fun q hq => ?_, List.pairwise_cons.2 ⟨h.away, h.tail.apart⟩⟩
  rcases List.mem_cons.1 hq with rfl | hq
  · exact ⟨h.head.1, blk_set h.head.2 j u⟩
  · refine q.keep (fun k hk => Below.heap_setCell w ⟨g, j, none⟩ u k (fun ek => ?_)) (h.tail.all q hq)
    exact h.away q hq k ek hk
theorem St.at_cell {g t : Nat} {cs : Array Value} {v : Value} (h : St w0 w ps) (i : Nat) (e : ps[i]? = some (Part.blk g t cs)) (j : Nat) (e2 : cs[j]? = some v) : w.cell? ⟨g, j, none⟩ = some v := (blk_cell (h.all _ (List.mem_of_getElem? e)).2 j).trans e2
theorem St.at_frozen {g t : Nat} {cs : Array Value} (h : St w0 w ps) (i : Nat) (e : ps[i]? = some (Part.blk g t cs)) (j : Nat) : w.frozen? ⟨g, j, none⟩ = false := blk_frozen (h.all _ (List.mem_of_getElem? e)).2 j
theorem St.at_apart {p q : Part} (h : St w0 w ps) (i j : Nat) (e : ps[i]? = some p) (e2 : ps[j]? = some q) (hij : i ≠ j) : ∀ k, p.foot k → ¬ q.foot k := by
  obtain ⟨hi, rfl⟩ := List.getElem?_eq_some_iff.1 e
  obtain ⟨hj, rfl⟩ := List.getElem?_eq_some_iff.1 e2
  have hp := List.pairwise_iff_getElem.1 h.apart
  rcases Nat.lt_or_ge i j with hl | hl
  · exact hp i j hi hj hl
  · exact fun k h1 h2 => hp j i hj hi (by omega) k h2 h1
theorem St.at_ne {g t g' t' : Nat} {cs cs' : Array Value} (h : St w0 w ps) (i j : Nat) (e : ps[i]? = some (Part.blk g t cs)) (e2 : ps[j]? = some (Part.blk g' t' cs')) (hij : i ≠ j) : g ≠ g' := fun eg => h.at_apart i j e e2 hij g rfl eg
theorem St.at_own {α : Type} {d : Kd α} {e0 : Nat} {v : Value} {xs : List α} {g t : Nat} {cs : Array Value} (h : St w0 w ps) (i j : Nat) (e : ps[i]? = some (Part.blk g t cs)) (e2 : ps[j]? = some (Part.row d e0 v xs)) (hij : i ≠ j) : v.ownBlock ≠ some g := fun eg => h.at_apart i j e e2 hij g rfl eg
theorem St.at_C {α : Type} {d : Kd α} {e0 n c : Nat} {A : Option Addr} {xs : List α} (h : St w0 w ps) (i : Nat) (e : ps[i]? = some (Part.row d e0 (.slice A n c) xs)) : n = xs.length ∧ n ≤ c ∧ d.C w A xs.length xs := Kd.R_reads' (h.all _ (List.mem_of_getElem? e))
theorem St.at_R {α : Type} {d : Kd α} {e0 : Nat} {v : Value} {xs : List α} (h : St w0 w ps) (i : Nat) (e : ps[i]? = some (Part.row d e0 v xs)) : d.R e0 w w0.heap.size (fun k => some k = v.ownBlock) v xs := h.all _ (List.mem_of_getElem? e)
theorem St.at_lt {g t : Nat} {cs : Array Value} (h : St w0 w ps) (i : Nat) (e : ps[i]? = some (Part.blk g t cs)) : g < w.heap.size := blk_lt (h.all _ (List.mem_of_getElem? e)).2
/-- A new block of cells. -/
theorem St.alloc (h : St w0 w ps) (cs : Array Value) (t : Nat) : St w0 (w.alloc (.cells cs t (0, 0))) (Part.blk w.heap.size t cs :: ps) := h.new_blk (below_alloc (Below.refl _ _) _) (Nat.le_refl _) (blk_new w _)
/-- A row is read. -/
theorem St.reads {α : Type} {d : Kd α} {e : Nat} {v : Value} {xs : List α} (h : St w0 w (Part.row d e v xs :: ps)) : ∃ A c, v = .slice A xs.length c ∧ xs.length ≤ c ∧ d.C w A xs.length xs := Kd.R_reads h.head
theorem St.C {α : Type} {d : Kd α} {e n c : Nat} {A : Option Addr} {xs : List α} (h : St w0 w (Part.row d e (.slice A n c) xs :: ps)) : n = xs.length ∧ n ≤ c ∧ d.C w A xs.length xs := Kd.R_reads' h.head
/-- A row is written over (its block alone). -/
theorem St.over {α : Type} {d : Kd α} {e : Nat} {ok : Nat → Prop} {v : Value} {xs ys : List α} (hE : d.E = []) (h : St w0 w (Part.row d e v xs :: ps)) (hg : w.grownBy w' v.ownBlock) (hr : d.R e w' w0.heap.size ok v ys) : St w0 w' (Part.row d e v ys :: ps) := by
  refine ⟨h.below.grown hg h.below.size (fun k hk => Kd.R_base h.head k hk), fun q hq => ?_, List.pairwise_cons.2 ⟨h.away, h.tail.apart⟩⟩
  rcases List.mem_cons.1 hq with rfl | hq
  · exact Part.of_R hE hr
  · refine q.keep (fun k hk => hg.block k (q.bound (h.tail.all q hq) k hk).2 (fun ek => ?_)) (h.tail.all q hq)
    exact h.away q hq k ek.symm hk
/-- A row is appended to: it lies where it lay, or anew. -/
theorem St.appended {α : Type} {d : Kd α} {e : Nat} {ok : Nat → Prop} {v v1 : Value} {xs zs : List α} (hE : d.E = []) (h : St w0 w (Part.row d e v xs :: ps)) (hb : Below w0.heap.size w0 w') (hg : w.grownBy w' v.ownBlock) (hr : d.R e w' w0.heap.size ok v1 zs)
    (hat : v1.ownBlock = v.ownBlock ∨ ∃ b, v1.ownBlock = some b ∧ w.heap.size ≤ b) : St w0 w' (Part.row d e v1 zs :: ps) := by
  refine ⟨hb, fun q hq => ?_, List.pairwise_cons.2 ⟨fun q hq k hk hq' => ?_, h.tail.apart⟩⟩
  · rcases List.mem_cons.1 hq with rfl | hq
    · exact Part.of_R hE hr
    · refine q.keep (fun k hk => hg.block k (q.bound (h.tail.all q hq) k hk).2 (fun ek => ?_)) (h.tail.all q hq)
      exact h.away q hq k ek.symm hk
  · rcases hat with e1 | ⟨b, e1, hle⟩
    · exact h.away q hq k (by show v.ownBlock = some k; rw [← e1]; exact hk) hq'
    · have : some b = some k := e1.symm.trans hk
      have h2 := (q.bound (h.tail.all q hq) k hq').2
      injection this with this
      omega
/-- What a method does that writes a block and one row that hangs on it. -/
theorem St.via {α : Type} {d : Kd α} {e g t : Nat} {cs cs' : Array Value} {ok : Nat → Prop} {u u' : Value} {xs ys : List α} (hE : d.E = []) (h : St w0 w (Part.blk g t cs :: Part.row d e u xs :: ps))
    (hb : Below w0.heap.size w0 w') (hc : w'.heap[g]? = some (.cells cs' t (0, 0))) (hr : d.R e w' w0.heap.size ok u' ys) (hk : Kept w w' (fun k => some k = u.ownBlock ∨ k = g)) (hok : ∀ k, ok k → k ≠ g ∧ ∀ q ∈ ps, ¬ q.foot k) :
    St w0 w' (Part.blk g t cs' :: Part.row d e u' ys :: ps) := by
  have hown : ∀ k, u'.ownBlock = some k → k ≠ g ∧ ∀ q ∈ ps, ¬ q.foot k := fun k hk' => hok k (hr.1 k hk')
  refine ⟨hb, fun q hq => ?_, List.pairwise_cons.2 ⟨fun q hq k hk' hq' => ?_, List.pairwise_cons.2 ⟨fun q hq k hk' => (hown k hk').2 q hq, h.tail.tail.apart⟩⟩⟩
  · rcases List.mem_cons.1 hq with rfl | hq
    · exact ⟨h.head.1, hc⟩
    · rcases List.mem_cons.1 hq with rfl | hq
      · exact Part.of_R hE hr
      · refine q.keep (fun k hk' => hk.2 k (q.bound (h.tail.tail.all q hq) k hk').2 (fun hs => ?_)) (h.tail.tail.all q hq)
        rcases hs with hs | hs
        · exact h.tail.away q hq k hs.symm hk'
        · exact h.away q (List.mem_cons_of_mem _ hq) k hs hk'
  · rcases List.mem_cons.1 hq with hq | hq
    · subst hq; exact (hown k hq').1 hk'
    · exact h.away q (List.mem_cons_of_mem _ hq) k hk' hq'
/-- The places that a row may take, beside a block and other parts. -/
def Free (g : Nat) (ps : List Part) (k : Nat) : Prop := k ≠ g ∧ ∀ q ∈ ps, ¬ q.foot k
theorem St.row_free {α : Type} {d : Kd α} {e g t : Nat} {cs : Array Value} {u : Value} {xs : List α} (h : St w0 w (Part.blk g t cs :: Part.row d e u xs :: ps)) : d.R e w w0.heap.size (Free g ps) u xs :=
  Kd.R_mono h.tail.head (fun k hk => ⟨fun e' => h.away (Part.row d e u xs) (by simp) k e' hk.symm, fun q hq => h.tail.away q hq k hk.symm⟩)
theorem St.fresh {g t : Nat} {cs : Array Value} {p : Part} (h : St w0 w (Part.blk g t cs :: p :: ps)) : ∀ n, w.heap.size ≤ n → Free g ps n := fun n hn => ⟨fun e => by have := blk_lt h.head.2; omega, fun q hq hk => by have := (q.bound (h.tail.tail.all q hq) n hk).2; omega⟩
end
end

theorem FI : Flat (Kd.int .i64) (fun x : Int => [Value.int .i64 x]) where
  E := rfl
  K := fun _ _ _ => Iff.rfl
  M := fun _ _ _ _ _ => Iff.rfl
  len := fun _ => rfl
  one := fun x v h => by rw [List.mem_singleton.1 h]; rfl

def enc63 (x : S63) : List Value := [.int .i64 x.f0, .int .i64 x.f1]
theorem F63 : Flat k63 enc63 where
  E := rfl
  K := fun w x cs => ⟨fun h => k63_open h, fun h => h ▸ k63_mk w x⟩
  M := fun w base ok x cs => ⟨fun h => k63_openM h, fun h => h ▸ k63_mkM w base ok x⟩
  len := fun _ => rfl
  one := fun x v h => by
    simp only [enc63, List.mem_cons, List.not_mem_nil, or_false] at h
    rcases h with rfl | rfl <;> rfl
instance inh63 : Inhabited (S63) := ⟨z63⟩

/-! ### Lists that are copied, compared, marked -/
theorem w64 (i : Nat) (h : (i : Int) < 9223372036854775807) : wrap64 ((i : Int) + 1) = ((i + 1 : Nat) : Int) := by unfold wrap64; omega
theorem set_take {α : Type} (x : List α) (i : Nat) (v : α) (h : i < x.length) : (x.set i v).take (i + 1) = x.take i ++ [v] := by
  rw [List.take_add_one, List.take_set_of_le (Nat.le_refl i), List.getElem?_set_self h]
  rfl
theorem take_next {α : Type} (x : List α) (i : Nat) (h : i < x.length) : x.take (i + 1) = x.take i ++ [x[i]] := by
  rw [List.take_add_one, List.getElem?_eq_getElem h]
  rfl
theorem rd_at (x : List Int) (i : Nat) (h : i < x.length) : rd x (i : Int) = x[i] := by
  unfold rd
  rw [List.getD_eq_getElem?_getD, Int.toNat_natCast, List.getElem?_eq_getElem h]
  rfl
/-! ### Hashes: the program's and the reference's are one number -/
theorem u32_wrap (n : Int) : IntKind.u32.wrap n = n % 4294967296 := by simp [IntKind.wrap, IntKind.bits, IntKind.signed]
theorem xor_u32 (a b : Nat) (ha : a < 4294967296) (hb : b < 4294967296) : Go.bits .xor .u32 (a : Int) (b : Int) = ((a ^^^ b : Nat) : Int) := by
  show IntKind.u32.wrap ((BitVec.ofInt 32 (a : Int) ^^^ BitVec.ofInt 32 (b : Int)).toNat : Nat) = _
  have h := Nat.xor_lt_two_pow (n := 32) ha hb
  rw [BitVec.toNat_xor, BitVec.ofInt_natCast, BitVec.ofInt_natCast, BitVec.toNat_ofNat, BitVec.toNat_ofNat, Nat.mod_eq_of_lt ha, Nat.mod_eq_of_lt hb, u32_wrap]
  omega
/-- The bytes of a text behind place i. -/
def tailOf (s : ByteArray) (i : Nat) : List UInt8 := s.data.toList.drop i
/-- One byte more. -/
def hstep (h : Nat) (b : UInt8) : Nat := ((h ^^^ b.toNat) * 16777619) % 4294967296
theorem hstep_lt (h : Nat) (b : UInt8) : hstep h b < 4294967296 := Nat.mod_lt _ (by omega)
/-- What the hash is at last. -/
def hlast (h : Nat) : Nat := h ^^^ (h / 65536)
/-- The hash of a text, from a seed that is in its range. -/
def hashN (s : ByteArray) (seed : Nat) : Nat := hlast ((tailOf s 0).foldl hstep (2166136261 + seed))
theorem hlast_lt (h : Nat) (hh : h < 4294967296) : hlast h < 4294967296 := Nat.xor_lt_two_pow (n := 32) hh (by omega)
theorem fold_lt (l : List UInt8) : ∀ (h : Nat), h < 4294967296 → l.foldl hstep h < 4294967296 := by
  induction l with
  | nil => intro h hh; exact hh
  | cons b l ih => intro h hh; exact ih _ (hstep_lt h b)
theorem hashN_lt (s : ByteArray) (seed : Nat) (h : seed ≤ 1000000000) : hashN s seed < 4294967296 := hlast_lt _ (fold_lt _ _ (by omega))
theorem tailOf_next (s : ByteArray) (i : Nat) (h : i < s.size) : ∃ b : UInt8, tailOf s i = b :: tailOf s (i + 1) ∧ bt s (i : Int) = (b.toNat : Int) := by
  have h' : i < s.data.toList.length := by simpa using h
  refine ⟨s[i], ?_, ?_⟩
  · unfold tailOf
    rw [List.drop_eq_getElem_cons h']
    rfl
  · unfold bt
    rw [dif_pos (by simpa using h)]
    simp
/-! ### The program's hash -/
theorem hashI_loop (s : ByteArray) (hs : s.size ≤ 4611686018427387904) (d : Nat) : ∀ (i h : Nat), h < 4294967296 → s.size = i + d → Ev (fun k => impl_HashOf.l0 k s (h : Int) (i : Int)) ((hlast ((tailOf s i).foldl hstep h) : Nat) : Int) := by
  induction d with
  | zero =>
    intro i h hh hd
    have e : tailOf s i = [] := by unfold tailOf; exact List.drop_eq_nil_of_le (by simp; omega)
    have hl := hlast_lt h hh
    rw [e]
    refine Ev.step (f := fun _ => some ((hlast h : Nat) : Int)) (fun k => ?_) (Ev.now _)
    simp only [impl_HashOf.l0]
    rw [if_neg (by omega), show (h : Int) / 65536 = ((h / 65536 : Nat) : Int) by omega, xor_u32 h (h / 65536) hh (by omega)]
    show some (wrap64 ((hlast h : Nat) : Int)) = _
    congr 1
    unfold wrap64; omega
  | succ d ih =>
    intro i h hh hd
    obtain ⟨b, e, eb⟩ := tailOf_next s i (by omega)
    have hb : b.toNat < 256 := b.toNat_lt
    have hxl := Nat.xor_lt_two_pow (n := 32) hh (show b.toNat < 2 ^ 32 by omega)
    have h2 := ih (i + 1) (hstep h b) (hstep_lt h b) (by omega)
    rw [e, List.foldl_cons]
    have ei : (((h ^^^ b.toNat : Nat) : Int) * 16777619) % 4294967296 = ((hstep h b : Nat) : Int) := by
      unfold hstep; omega
    refine Ev.step (fun k => ?_) h2
    simp only [impl_HashOf.l0]
    rw [if_pos (by omega), if_pos (by omega), eb, show ((b.toNat : Nat) : Int) % 4294967296 = (b.toNat : Int) by omega, xor_u32 h b.toNat hh (by omega), ei, w64 i (by omega)]
theorem hashI_ev (s : ByteArray) (hs : s.size ≤ 4611686018427387904) (seed : Nat) (h : seed ≤ 1000000000) : Ev (fun k => impl_HashOf.f k s (seed : Int)) ((hashN s seed : Nat) : Int) := by
  refine Ev.congr (fun k => ?_) (hashI_loop s hs s.size 0 (2166136261 + seed) (by omega) (by omega))
  unfold impl_HashOf.f
  have : mx 0 (mn (seed : Int) 1000000000) = (seed : Int) := by unfold mx mn; split <;> split <;> omega
  rw [this]
  rfl
/-! ### Rings of nodes: spots, ascending -/
/-- A spot stands ahead of another, or at the same place and node. -/
def leSp (a b : S63) : Bool := decide (a.f0 < b.f0 ∨ (a.f0 = b.f0 ∧ a.f1 ≤ b.f1))
theorem leSp_iff {a b : S63} : leSp a b = true ↔ (a.f0 < b.f0 ∨ (a.f0 = b.f0 ∧ a.f1 ≤ b.f1)) := decide_eq_true_iff
theorem leSp_total (a b : S63) : (leSp a b || leSp b a) = true := by
  rw [Bool.or_eq_true, leSp_iff, leSp_iff]; omega
theorem leSp_trans (a b c : S63) (h1 : leSp a b = true) (h2 : leSp b c = true) : leSp a c = true := by
  rw [leSp_iff] at *; omega
theorem leSp_anti (a b : S63) (h1 : leSp a b = true) (h2 : leSp b a = true) : a = b := by
  rw [leSp_iff] at *
  obtain ⟨a0, a1⟩ := a
  obtain ⟨b0, b1⟩ := b
  simp only [S63.mk.injEq] at *
  omega
/-- The text of a node's spot: '<node>-<number>'. -/
def spotName (v k : Nat) : ByteArray := ⟨#[UInt8.ofNat (48 + v), 45, UInt8.ofNat (48 + k)]⟩
def spotOf (v : Int) (k : Nat) : S63 := ⟨(hashN (spotName v.toNat k) 0 : Nat), v⟩
def spots4 (v : Int) : List (S63) := [spotOf v 0, spotOf v 1, spotOf v 2, spotOf v 3]
/-- A ring of nodes. -/
def ringL (ns : List Int) : List (S63) := (ns.flatMap spots4).mergeSort leSp
theorem sorted_unique {l m : List (S63)} (h : l.Perm m) (hl : l.Pairwise (fun a b => leSp a b = true)) (hm : m.Pairwise (fun a b => leSp a b = true)) : l = m :=
  List.Perm.eq_of_pairwise (fun a b _ _ h1 h2 => leSp_anti a b h1 h2) hl hm h
theorem ringL_perm (ns : List Int) : (ringL ns).Perm (ns.flatMap spots4) := List.mergeSort_perm _ _
theorem ringL_sorted (ns : List Int) : (ringL ns).Pairwise (fun a b => leSp a b = true) := List.pairwise_mergeSort (fun a b c => leSp_trans a b c) leSp_total _
theorem ringL_len (ns : List Int) : (ringL ns).length = 4 * ns.length := by
  rw [(ringL_perm ns).length_eq]
  induction ns with
  | nil => rfl
  | cons v ns ih => rw [List.flatMap_cons, List.length_append, ih, List.length_cons]; show 4 + _ = _; omega
theorem mem_ring {ns : List Int} {s : S63} (h : s ∈ ringL ns) : s.f1 ∈ ns := by
  obtain ⟨v, hv, hs⟩ := List.mem_flatMap.1 ((ringL_perm ns).mem_iff.1 h)
  simp only [spots4, List.mem_cons, List.not_mem_nil, or_false] at hs
  rcases hs with rfl | rfl | rfl | rfl <;> exact hv
theorem ring_mem {ns : List Int} {v : Int} (h : v ∈ ns) : ∃ s ∈ ringL ns, s.f1 = v :=
  ⟨spotOf v 0, (ringL_perm ns).mem_iff.2 (List.mem_flatMap.2 ⟨v, h, by simp [spots4]⟩), rfl⟩
theorem spots4_filter (x v : Int) : (spots4 v).filter (fun s => decide (s.f1 ≠ x)) = if v ≠ x then spots4 v else [] := by
  by_cases h : v = x
  · rw [if_neg (by simpa using h)]; simp [spots4, spotOf, h]
  · rw [if_pos h]; simp [spots4, spotOf, h]
/-- A node less in the ring. -/
theorem ringL_filter (ns : List Int) (x : Int) : (ringL ns).filter (fun s => decide (s.f1 ≠ x)) = ringL (ns.filter (fun v => decide (v ≠ x))) := by
  refine sorted_unique (((ringL_perm ns).filter _).trans (List.Perm.trans ?_ (ringL_perm _).symm)) ((ringL_sorted ns).filter _) (ringL_sorted _)
  rw [List.filter_flatMap]
  induction ns with
  | nil => exact List.Perm.refl _
  | cons v ns ih =>
    rw [List.flatMap_cons, spots4_filter, List.filter_cons]
    by_cases h : v = x
    · rw [if_neg (by simpa using h), if_neg (by simpa using h)]; exact ih
    · rw [if_pos h, if_pos (by simpa using h), List.flatMap_cons]; exact ih.append_left _
/-! What is put into its place -/
def aheadSp (a b : S63) : Bool := decide (a.f0 < b.f0 ∨ (a.f0 = b.f0 ∧ a.f1 < b.f1))
def insSp (l : List (S63)) (x : S63) : List (S63) := l.filter (fun y => aheadSp y x) ++ [x] ++ l.filter (fun y => !aheadSp y x)
theorem insSp_perm (l : List (S63)) (x : S63) : (insSp l x).Perm (l ++ [x]) := by
  unfold insSp
  have h := List.filter_append_perm (fun y => aheadSp y x) l
  refine List.Perm.trans ?_ (h.append_right [x])
  rw [List.append_assoc, List.append_assoc]
  exact List.perm_append_comm.append_left _
theorem insSp_sorted {l : List (S63)} (x : S63) (h : l.Pairwise (fun a b => leSp a b = true)) : (insSp l x).Pairwise (fun a b => leSp a b = true) := by
  unfold insSp
  rw [List.append_assoc, List.singleton_append, List.pairwise_append, List.pairwise_cons]
  refine ⟨h.filter _, ⟨fun b hb => ?_, h.filter _⟩, fun a ha b hb => ?_⟩
  · have := (List.mem_filter.1 hb).2
    simp only [aheadSp, Bool.not_eq_true', decide_eq_false_iff_not] at this
    rw [leSp_iff]; omega
  · have h1 := (List.mem_filter.1 ha).2
    simp only [aheadSp, decide_eq_true_eq] at h1
    rcases List.mem_cons.1 hb with rfl | hb
    · rw [leSp_iff]; omega
    · have h2 := (List.mem_filter.1 hb).2
      simp only [aheadSp, Bool.not_eq_true', decide_eq_false_iff_not] at h2
      rw [leSp_iff]; omega
theorem foldIns (xs : List (S63)) : ∀ (l : List (S63)), l.Pairwise (fun a b => leSp a b = true) → (xs.foldl insSp l).Pairwise (fun a b => leSp a b = true) ∧ (xs.foldl insSp l).Perm (l ++ xs) := by
  induction xs with
  | nil => intro l h; exact ⟨h, by simp⟩
  | cons x xs ih =>
    intro l h
    obtain ⟨h1, h2⟩ := ih (insSp l x) (insSp_sorted x h)
    refine ⟨h1, h2.trans ?_⟩
    rw [show l ++ x :: xs = (l ++ [x]) ++ xs by simp]
    exact (insSp_perm l x).append_right _
theorem ringL_ins (ns : List Int) : (ns.flatMap spots4).foldl insSp [] = ringL ns := by
  obtain ⟨h1, h2⟩ := foldIns (ns.flatMap spots4) [] List.Pairwise.nil
  exact sorted_unique (h2.trans (ringL_perm ns).symm) h1 (ringL_sorted ns)
/-- A list of nodes that a ring takes. -/
def validN (ns : List Int) : Bool := decide (1 ≤ ns.length ∧ ns.length ≤ 6) && (decide (∀ v ∈ ns, 1 ≤ v ∧ v ≤ 9) && decide (ns.Pairwise (· < ·)))
/-- Ascending numbers within 1 .. 9, behind a number. -/
def okPrev (p : Option Int) (v : Int) : Bool := match p with | none => true | some q => decide (q < v)
def okAsc (p : Option Int) (l : List Int) : Bool := match l with
  | [] => true
  | v :: l => decide (1 ≤ v ∧ v ≤ 9) && (okPrev p v && okAsc (some v) l)
theorem okAsc_cons (p : Option Int) (v : Int) (l : List Int) : okAsc p (v :: l) = (decide (1 ≤ v ∧ v ≤ 9) && (okPrev p v && okAsc (some v) l)) := rfl
theorem okAsc_iff : ∀ (l : List Int) (p : Option Int), okAsc p l = true ↔ (∀ v ∈ l, 1 ≤ v ∧ v ≤ 9) ∧ (∀ q, p = some q → ∀ v ∈ l, q < v) ∧ l.Pairwise (· < ·)
  | [], p => by simp [okAsc]
  | v :: l, p => by
    rw [okAsc_cons, Bool.and_eq_true, Bool.and_eq_true, okAsc_iff l (some v), decide_eq_true_eq, List.pairwise_cons]
    constructor
    · rintro ⟨h1, h2, h3, h4, h5⟩
      refine ⟨fun x hx => ?_, fun q hq x hx => ?_, fun x hx => h4 v rfl x hx, h5⟩
      · rcases List.mem_cons.1 hx with rfl | hx
        · exact h1
        · exact h3 x hx
      · subst hq
        have h2 := of_decide_eq_true h2
        rcases List.mem_cons.1 hx with rfl | hx
        · exact h2
        · have := h4 v rfl x hx; omega
    · rintro ⟨h1, h2, h3, h4⟩
      refine ⟨h1 v List.mem_cons_self, ?_, fun x hx => h1 x (List.mem_cons_of_mem _ hx), fun q hq x hx => by cases hq; exact h3 x hx, h4⟩
      cases p with
      | none => rfl
      | some q => exact decide_eq_true (h2 q rfl v List.mem_cons_self)
theorem validN_asc (l : List Int) : validN l = (decide (1 ≤ l.length ∧ l.length ≤ 6) && okAsc none l) := by
  have h := okAsc_iff l none
  unfold validN
  congr 1
  cases e : okAsc none l with
  | true =>
    obtain ⟨h1, _, h3⟩ := h.1 e
    rw [decide_eq_true h1, decide_eq_true h3]; rfl
  | false =>
    by_cases h1 : ∀ v ∈ l, 1 ≤ v ∧ v ≤ 9
    · by_cases h3 : l.Pairwise (· < ·)
      · have := h.2 ⟨h1, (fun q hq => nomatch hq : ∀ q : Int, (none : Option Int) = some q → ∀ v ∈ l, q < v), h3⟩; rw [e] at this; cases this
      · rw [decide_eq_false h3, Bool.and_false]
    · rw [decide_eq_false h1, Bool.false_and]
/-- The number ahead of a place. -/
def prevAt (l : List Int) (i : Nat) : Option Int := if i = 0 then none else l[i - 1]?
theorem prevAt_next (l : List Int) (i : Nat) (h : i < l.length) : prevAt l (i + 1) = some l[i] := by
  unfold prevAt
  rw [if_neg (by omega), Nat.add_sub_cancel, List.getElem?_eq_getElem h]
theorem ascI_loop (l : List Int) (hl : l.length ≤ 1048576) (d : Nat) : ∀ (i : Nat), i + d = l.length → Ev (fun k => impl_isAscending.l0 k l 1 9 l (l.length : Int) (i : Int)) (okAsc (prevAt l i) (l.drop i)) := by
  induction d with
  | zero =>
    intro i hi
    rw [List.drop_eq_nil_of_le (by omega)]
    refine Ev.step (f := fun _ => some true) (fun k => ?_) (Ev.now _)
    simp only [impl_isAscending.l0]
    rw [if_neg (by omega)]
  | succ d ih =>
    intro i hi
    have h1 : i < l.length := by omega
    rw [List.drop_eq_getElem_cons h1, okAsc_cons]
    by_cases c : 1 ≤ l[i] ∧ l[i] ≤ 9
    · have hr : impl_inRange.f l[i] 1 9 = some true := by unfold impl_inRange.f; rw [if_pos (by omega), decide_eq_true (by omega)]
      rw [decide_eq_true c, Bool.true_and]
      rcases Nat.eq_zero_or_pos i with rfl | hp
      · have ih := ih 1 (by omega)
        rw [show okPrev (prevAt l 0) l[0] = true from rfl, Bool.true_and, ← prevAt_next l 0 h1]
        refine Ev.step (fun k => ?_) ih
        · simp only [impl_isAscending.l0]
          rw [if_pos (by omega), if_pos (by omega), if_pos (by omega), rd_at l 0 h1, hr, Option.bind_some, if_pos rfl, if_neg (by omega), w64 0 (by omega)]
      · have e : wrap64 ((i : Int) - 1) = ((i - 1 : Nat) : Int) := by unfold wrap64; omega
        have hq : prevAt l i = some l[i - 1] := by unfold prevAt; rw [if_neg (by omega), List.getElem?_eq_getElem (by omega)]
        have ih := ih (i + 1) (by omega)
        rw [hq]
        by_cases g : l[i - 1] < l[i]
        · rw [show okPrev (some l[i - 1]) l[i] = true from decide_eq_true g, Bool.true_and, ← prevAt_next l i h1]
          refine Ev.step (fun k => ?_) ih
          simp only [impl_isAscending.l0]
          rw [if_pos (by omega), if_pos (by omega), if_pos (by omega), rd_at l i h1, hr, Option.bind_some, if_pos rfl, if_pos (by omega), e, if_pos (by omega), if_pos (by omega), rd_at l (i - 1) (by omega), if_neg (by omega), w64 i (by omega)]
        · rw [show okPrev (some l[i - 1]) l[i] = false from decide_eq_false g, Bool.false_and]
          refine Ev.step (f := fun _ => some false) (fun k => ?_) (Ev.now _)
          simp only [impl_isAscending.l0]
          rw [if_pos (by omega), if_pos (by omega), if_pos (by omega), rd_at l i h1, hr, Option.bind_some, if_pos rfl, if_pos (by omega), e, if_pos (by omega), if_pos (by omega), rd_at l (i - 1) (by omega), if_pos (by omega)]
    · have hr : impl_inRange.f l[i] 1 9 = some false := by
        unfold impl_inRange.f
        by_cases q : l[i] ≥ 1
        · rw [if_pos q, decide_eq_false (by omega)]
        · rw [if_neg q]
      rw [decide_eq_false c, Bool.false_and]
      refine Ev.step (f := fun _ => some false) (fun k => ?_) (Ev.now _)
      simp only [impl_isAscending.l0]
      rw [if_pos (by omega), if_pos (by omega), if_pos (by omega), rd_at l i h1, hr, Option.bind_some, if_neg (by decide)]
theorem ascI_ev (l : List Int) (hl : l.length ≤ 1048576) : Ev (fun k => impl_isAscending.f k l 1 9) (okAsc none l) := ascI_loop l hl l.length 0 (by omega)

/-! ### impl_RingOf: function 11 -/
section
open Go.Lib Go.Sort
shelf_lay Lays.n171 Nm 171 at Tryd as impl_RingOf.itoa
shelf_lay_g SlLaysF0.n6 Slsf 6 at Tryd 40 as impl_RingOf.sortL
shelf_lay_g SlLaysC2.n5 Slgc 5 at Tryd 43 as impl_RingOf.cmpL
/-- A numeral of one digit. -/
def digS (v : Nat) : ByteArray := ⟨#[UInt8.ofNat (48 + v)]⟩
theorem impl_RingOf.dec (v : Nat) (hv : v < 10) (w : World) : Calls Tryd.prog 39 #[.int .i64 v] w fun e w' => e = .returned (.string (digS v)) ∧ w' = w := by
  have hcon := Any.strconv_Itoa_small impl_RingOf.itoa v (by omega) w
  rw [show Go.Lib.decDigits v = [UInt8.ofNat (48 + v)] by unfold Go.Lib.decDigits; rw [dif_pos hv]] at hcon
  change Calls Tryd.prog 61 #[.int .i64 v] w (fun e w' => e = .returned (.string (digS v)) ∧ w' = w) at hcon
  go_enter Tryd.func39, Tryd.ntmps39
  go_wp2_with (go_at_call 61; refine hcon.mono ?_; rintro e w' ⟨rfl, rfl⟩)
  go_ret
  exact ⟨rfl, rfl⟩
/-- 'cmp.Or' of two numbers. -/
def orI (x y : Int) : Int := if x = 0 then y else x
set_option maxHeartbeats 1000000 in
theorem impl_RingOf.or_ (x y : Int) (g c : Nat) (w : World) (h0 : w.cell? ⟨g, 0, none⟩ = some (.int .i64 x)) (h1 : w.cell? ⟨g, 1, none⟩ = some (.int .i64 y)) :
    Calls Tryd.prog 42 #[.slice (some ⟨g, 0, none⟩) 2 c] w fun e w' => e = .returned (.int .i64 (orI x y)) ∧ w' = w := by
  by_cases hx : x = 0
  · by_cases hy : y = 0
    · have hxb : (x != 0) = false := by simp [hx]
      have hyb : (y != 0) = false := by simp [hy]
      have e : orI x y = 0 := by unfold orI; rw [if_pos hx, hy]
      rw [e]
      clear e hx hy
      go_enter Tryd.func42, Tryd.ntmps42
      go_wp2_with fail
      go_loopw [8] (fun v8 wr => wr = w ∧ ∃ i : Nat, v8 = .int .i64 i ∧ i ≤ 2) (fun v8 _ => 2 - (Go.RowKit.intOf v8).toNat)
      case atStart => exact ⟨(by first | rfl | trivial), 0, rfl, by omega⟩
      case round =>
        obtain ⟨rfl, i, rfl, hi⟩ := hrel
        have : i = 0 ∨ i = 1 ∨ i = 2 := by omega
        rcases this with rfl | rfl | rfl
        · go_wp2_with fail
          go_roundw
          case rel => exact ⟨(by first | rfl | trivial), 1, by go_num, by omega⟩
          case measure => simp only [Go.RowKit.intOf]; omega
        · go_wp2_with fail
          go_roundw
          case rel => exact ⟨(by first | rfl | trivial), 2, by go_num, by omega⟩
          case measure => simp only [Go.RowKit.intOf]; omega
        · go_wp2_with fail
          go_ret
          exact ⟨rfl, rfl⟩
    · have hxb : (x != 0) = false := by simp [hx]
      have hyb : (y != 0) = true := by simp [hy]
      have e : orI x y = y := by unfold orI; rw [if_pos hx]
      rw [e]
      clear e hx hy
      go_enter Tryd.func42, Tryd.ntmps42
      go_wp2_with fail
      go_loopw [8] (fun v8 wr => wr = w ∧ ∃ i : Nat, v8 = .int .i64 i ∧ i ≤ 1) (fun v8 _ => 2 - (Go.RowKit.intOf v8).toNat)
      case atStart => exact ⟨(by first | rfl | trivial), 0, rfl, by omega⟩
      case round =>
        obtain ⟨rfl, i, rfl, hi⟩ := hrel
        have : i = 0 ∨ i = 1 := by omega
        rcases this with rfl | rfl
        · go_wp2_with fail
          go_roundw
          case rel => exact ⟨(by first | rfl | trivial), 1, by go_num, by omega⟩
          case measure => simp only [Go.RowKit.intOf]; omega
        · go_wp2_with fail
          go_ret
          exact ⟨rfl, rfl⟩
  · have hxb : (x != 0) = true := by simp [hx]
    have e : orI x y = x := by unfold orI; rw [if_neg hx]
    rw [e]
    clear e hx
    go_enter Tryd.func42, Tryd.ntmps42
    go_wp2_with fail
    go_loopw [8] (fun v8 wr => wr = w ∧ ∃ i : Nat, v8 = .int .i64 i ∧ i = 0) (fun v8 _ => 2 - (Go.RowKit.intOf v8).toNat)
    case atStart => exact ⟨(by first | rfl | trivial), 0, rfl, by omega⟩
    case round =>
      obtain ⟨rfl, i, rfl, rfl⟩ := hrel
      go_wp2_with fail
      go_ret
      exact ⟨rfl, rfl⟩
/-- The order of spots. -/
def cmpSp (x y : S63) : Int := orI (Go.Lib.compareInt x.f0 y.f0) (Go.Lib.compareInt x.f1 y.f1)
theorem ltSp (x y : S63) : ltOf cmpSp x y = aheadSp x y := by
  unfold ltOf cmpSp orI Go.Lib.compareInt aheadSp
  by_cases h1 : x.f0 < y.f0
  · simp [h1]
  · by_cases h2 : y.f0 < x.f0
    · simp [h1, h2]; omega
    · have e : x.f0 = y.f0 := by omega
      by_cases h3 : x.f1 < y.f1
      · simp [e, h3]
      · by_cases h4 : y.f1 < x.f1 <;> simp [e, h3, h4]
theorem swoSp : SWO (ltOf cmpSp) where
  irrefl x := by rw [ltSp]; simp [aheadSp]
  trans x y z h1 h2 := by rw [ltSp] at *; simp only [aheadSp, decide_eq_true_eq] at *; omega
  ntrans x y z h1 h2 := by rw [ltSp] at *; simp only [aheadSp, decide_eq_false_iff_not] at *; omega
theorem totSp (x y : S63) (h1 : ltOf cmpSp x y = false) (h2 : ltOf cmpSp y x = false) : x = y := by
  rw [ltSp] at *
  simp only [aheadSp, decide_eq_false_iff_not] at *
  obtain ⟨x0, x1⟩ := x
  obtain ⟨y0, y1⟩ := y
  simp only [S63.mk.injEq] at *
  omega
theorem geSp : (fun x y : S63 => !ltOf cmpSp y x) = leSp := by
  funext x y
  rw [ltSp]
  unfold aheadSp leSp
  rw [← decide_not]
  congr 1
  exact propext (by omega)
set_option maxHeartbeats 1000000 in
set_option maxRecDepth 100000 in
theorem impl_RingOf.clo (x y : S63) (W : World) : Calls Tryd.prog 41 #[.agg (enc63 x).toArray, .agg (enc63 y).toArray] W fun e w' => e = .returned (.int .i64 (cmpSp x y)) ∧ ∃ q os', w' = grow (W.drewN q) os' := by
  have hcon := fun a b W' => AnyG.cmp_Compare_int impl_RingOf.cmpL a b W'
  change ∀ a b W', Calls Tryd.prog 43 _ _ _ at hcon
  unfold cmpSp
  generalize h1 : Go.Lib.compareInt x.f0 y.f0 = r1
  generalize h2 : Go.Lib.compareInt x.f1 y.f1 = r2
  show Calls Tryd.prog 41 #[.agg #[.int .i64 x.f0, .int .i64 x.f1], .agg #[.int .i64 y.f0, .int .i64 y.f1]] W _
  go_enter Tryd.func41, Tryd.ntmps41
  go_wp2_with fail
  generalize hW2 : World.alloc _ _ = W2
  have hs1 : W.heap.size + 1 = (W.alloc (Obj.cells #[Value.int IntKind.i64 x.f0, Value.int IntKind.i64 x.f1] 63)).heap.size := by show _ = (W.heap.push _).size; rw [Array.size_push]
  have b1 : W2.heap[W.heap.size + 1]? = some (.cells #[Value.int IntKind.i64 y.f0, Value.int IntKind.i64 y.f1] 63 (0, 0)) := by rw [← hW2, hs1]; exact blk_new _ _
  have b0 : W2.heap[W.heap.size]? = some (.cells #[Value.int IntKind.i64 x.f0, Value.int IntKind.i64 x.f1] 63 (0, 0)) := by rw [← hW2]; exact blk_alloc (blk_new _ _) _
  have hx0 := (blk_cell b0 0).trans (rfl : _ = some (Value.int IntKind.i64 x.f0))
  have hx1 := (blk_cell b0 1).trans (rfl : _ = some (Value.int IntKind.i64 x.f1))
  have hy0 := (blk_cell b1 0).trans (rfl : _ = some (Value.int IntKind.i64 y.f0))
  have hy1 := (blk_cell b1 1).trans (rfl : _ = some (Value.int IntKind.i64 y.f1))
  have HG : ∃ os, W2 = grow W os := ⟨_, by rw [← hW2, alloc_eq_grow, alloc_eq_grow, grow_grow]⟩
  generalize W.heap.size + 1 = g1 at *
  generalize W.heap.size = g0 at *
  clear hs1 b1 b0 hW2
  refine start_ (n := 13) (S := fun w' => w'.cell? ⟨g0, 0, none⟩ = some (.int .i64 x.f0) ∧ w'.cell? ⟨g0, 1, none⟩ = some (.int .i64 x.f1) ∧ w'.cell? ⟨g1, 0, none⟩ = some (.int .i64 y.f0) ∧ w'.cell? ⟨g1, 1, none⟩ = some (.int .i64 y.f1)) (ds := []) #[false, false, false, false, false, false, false, false, false, false, false, false, false] (by kernel_rfl) rfl rfl ⟨hx0, hx1, hy0, hy1⟩ (fun hHeld => ?_)
  refine pure_ (i := 0) (N := some 5) (v := ?_) (a' := ?_) #[true, false, false, false, false, false, false, false, false, false, false, false, false] rfl rfl (by kernel_rfl) (fun _ _ _ h => h) (Or.inl ⟨by rfl, ?_⟩) ?_ ?_
  rotate_left
  · intro w'
    go_simp
    with_reducible rfl
  rotate_left
  · simp only [Act.put, List.setIfInBounds_toArray, List.set_cons_zero, List.set_cons_succ, i64_w, i32_w]
    rfl
  refine pure_ (i := 2) (N := some 7) (v := ?_) (a' := ?_) #[true, false, true, false, false, false, false, false, false, false, false, false, false] rfl rfl (by kernel_rfl) (fun _ _ _ h => h) (Or.inl ⟨by rfl, ?_⟩) ?_ ?_
  rotate_left
  · intro w'
    go_simp
    with_reducible rfl
  rotate_left
  · simp only [Act.put, List.setIfInBounds_toArray, List.set_cons_zero, List.set_cons_succ, i64_w, i32_w]
    rfl
  refine pure_ (i := 5) (N := some 10) (v := ?_) (a' := ?_) #[true, false, true, false, false, true, false, false, false, false, false, false, false] rfl rfl (by kernel_rfl) (fun _ _ _ h => h) (Or.inl ⟨by rfl, ?_⟩) ?_ ?_
  rotate_left
  · intro w'
    go_simp
    with_reducible rfl
  rotate_left
  · simp only [Act.put, List.setIfInBounds_toArray, List.set_cons_zero, List.set_cons_succ, i64_w, i32_w]
    rfl
  refine pure_ (i := 7) (N := some 12) (v := ?_) (a' := ?_) #[true, false, true, false, false, true, false, true, false, false, false, false, false] rfl rfl (by kernel_rfl) (fun _ _ _ h => h) (Or.inl ⟨by rfl, ?_⟩) ?_ ?_
  rotate_left
  · intro w'
    go_simp
    with_reducible rfl
  rotate_left
  · simp only [Act.put, List.setIfInBounds_toArray, List.set_cons_zero, List.set_cons_succ, i64_w, i32_w]
    rfl
  refine take_ (i := 1) (N := some 6) (v := ?_) (a' := ?_) #[true, true, true, false, false, true, false, true, false, false, false, false, false] rfl rfl (by kernel_rfl) (fun _ _ _ h => h) (Or.inl ⟨by rfl, ?_⟩) hHeld ?_ ?_
  rotate_left
  · intro w' hS_
    obtain ⟨q0, q1, q2, q3⟩ := hS_
    go_simp
    with_reducible rfl
  rotate_left
  · simp only [Act.put, List.setIfInBounds_toArray, List.set_cons_zero, List.set_cons_succ, i64_w, i32_w]
    rfl
  refine take_ (i := 3) (N := some 8) (v := ?_) (a' := ?_) #[true, true, true, true, false, true, false, true, false, false, false, false, false] rfl rfl (by kernel_rfl) (fun _ _ _ h => h) (Or.inl ⟨by rfl, ?_⟩) hHeld ?_ ?_
  rotate_left
  · intro w' hS_
    obtain ⟨q0, q1, q2, q3⟩ := hS_
    go_simp
    with_reducible rfl
  rotate_left
  · simp only [Act.put, List.setIfInBounds_toArray, List.set_cons_zero, List.set_cons_succ, i64_w, i32_w]
    rfl
  refine take_ (i := 6) (N := some 11) (v := ?_) (a' := ?_) #[true, true, true, true, false, true, true, true, false, false, false, false, false] rfl rfl (by kernel_rfl) (fun _ _ _ h => h) (Or.inl ⟨by rfl, ?_⟩) hHeld ?_ ?_
  rotate_left
  · intro w' hS_
    obtain ⟨q0, q1, q2, q3⟩ := hS_
    go_simp
    with_reducible rfl
  rotate_left
  · simp only [Act.put, List.setIfInBounds_toArray, List.set_cons_zero, List.set_cons_succ, i64_w, i32_w]
    rfl
  refine take_ (i := 8) (N := some 13) (v := ?_) (a' := ?_) #[true, true, true, true, false, true, true, true, true, false, false, false, false] rfl rfl (by kernel_rfl) (fun _ _ _ h => h) (Or.inl ⟨by rfl, ?_⟩) hHeld ?_ ?_
  rotate_left
  · intro w' hS_
    obtain ⟨q0, q1, q2, q3⟩ := hS_
    go_simp
    with_reducible rfl
  rotate_left
  · simp only [Act.put, List.setIfInBounds_toArray, List.set_cons_zero, List.set_cons_succ, i64_w, i32_w]
    rfl
  refine one_ (i := 4) (N := some 9) #[true, true, true, true, true, true, true, true, true, false, false, false, false] rfl rfl (by kernel_rfl) (by decide) (fun K hK => ?_)
  refine goes_ Tryd.func43 (by kernel_rfl) rfl #[.int .i64 x.f0, .int .i64 y.f0] (by rfl) rfl rfl (by first | rfl | (simp only [List.map_toArray, List.map_cons, List.map_nil]; first | done | rfl)) ?_
  refine (hcon x.f0 y.f0 _).mono ?_
  rintro e w7 ⟨rfl, rfl⟩
  refine ⟨_, rfl, ?_⟩
  refine hK.out _ _ ⟨hx0, hx1, hy0, hy1⟩ (fun hHeld => ?_)
  clear hK K
  refine norm_ (a' := ?_) ?_ ?_
  rotate_left
  · show Act.put _ (some 9) _ = _
    simp only [Act.put, List.setIfInBounds_toArray, List.set_cons_zero, List.set_cons_succ, i64_w, i32_w]
    rfl
  rw [h1]
  refine one_ (i := 9) (N := some 14) #[true, true, true, true, true, true, true, true, true, true, false, false, false] rfl rfl (by kernel_rfl) (by decide) (fun K hK => ?_)
  refine goes_ Tryd.func43 (by kernel_rfl) rfl #[.int .i64 x.f1, .int .i64 y.f1] (by rfl) rfl rfl (by first | rfl | (simp only [List.map_toArray, List.map_cons, List.map_nil]; first | done | rfl)) ?_
  refine (hcon x.f1 y.f1 _).mono ?_
  rintro e w7 ⟨rfl, rfl⟩
  refine ⟨_, rfl, ?_⟩
  refine hK.out _ _ ⟨hx0, hx1, hy0, hy1⟩ (fun hHeld => ?_)
  clear hK K
  refine norm_ (a' := ?_) ?_ ?_
  rotate_left
  · show Act.put _ (some 14) _ = _
    simp only [Act.put, List.setIfInBounds_toArray, List.set_cons_zero, List.set_cons_succ, i64_w, i32_w]
    rfl
  rw [h2]
  refine one_ (i := 10) (N := some 15) #[true, true, true, true, true, true, true, true, true, true, true, false, false] rfl rfl (by kernel_rfl) (by decide) (fun K hK => ?_)
  go_simp
  refine hK.out _ _ ⟨(Lib.cell?_alloc_some _ hx0 : _), Lib.cell?_alloc_some _ hx1, Lib.cell?_alloc_some _ hy0, Lib.cell?_alloc_some _ hy1⟩ (fun hHeld => ?_)
  clear hK K
  have c0 : (W2.alloc (Obj.cells #[Value.int IntKind.i64 r1, Value.int IntKind.i64 r2] 3)).drew.cell? ⟨W2.heap.size, 0, none⟩ = some (.int .i64 r1) := (blk_cell (blk_new _ _) 0).trans rfl
  have c1 : (W2.alloc (Obj.cells #[Value.int IntKind.i64 r1, Value.int IntKind.i64 r2] 3)).drew.cell? ⟨W2.heap.size, 1, none⟩ = some (.int .i64 r2) := (blk_cell (blk_new _ _) 1).trans rfl
  refine one_ (i := 11) (N := some 16) #[true, true, true, true, true, true, true, true, true, true, true, true, false] rfl rfl (by kernel_rfl) (by decide) (fun K hK => ?_)
  refine goes_ Tryd.func42 (by kernel_rfl) rfl #[.slice (some ⟨W2.heap.size, 0, none⟩) 2 2] (by rfl) rfl rfl (by first | rfl | (simp only [List.map_toArray, List.map_cons, List.map_nil]; first | done | rfl)) ?_
  refine (impl_RingOf.or_ r1 r2 W2.heap.size 2 _ c0 c1).mono ?_
  rintro e w7 ⟨rfl, rfl⟩
  refine ⟨_, rfl, ?_⟩
  refine hK.out _ _ hHeld (fun hHeld => ?_)
  clear hK K
  refine norm_ (a' := ?_) ?_ ?_
  rotate_left
  · show Act.put _ (some 16) _ = _
    simp only [Act.put, List.setIfInBounds_toArray, List.set_cons_zero, List.set_cons_succ, i64_w, i32_w]
    rfl
  refine pure_ (i := 12) (N := some 4) (v := ?_) (a' := ?_) #[true, true, true, true, true, true, true, true, true, true, true, true, true] rfl rfl (by kernel_rfl) (fun _ _ _ h => h) (Or.inl ⟨by rfl, ?_⟩) ?_ ?_
  rotate_left
  · intro w'
    go_simp
    with_reducible rfl
  rotate_left
  · simp only [Act.put, List.setIfInBounds_toArray, List.set_cons_zero, List.set_cons_succ, i64_w, i32_w]
    rfl
  refine done_ (by kernel_rfl) ?_
  go_wp2_with fail
  go_ret
  obtain ⟨os, rfl⟩ := HG
  exact ⟨rfl, 1, os ++ #[Obj.cells #[Value.int IntKind.i64 r1, Value.int IntKind.i64 r2] 3], by rw [alloc_eq_grow, grow_grow]; rfl⟩
theorem flat_at {α : Type} (enc : α → List Value) (sz : Nat) (hl : ∀ x, (enc x).length = sz) (xs : List α) (i j : Nat) (x : α) (v : Value) (hi : xs[i]? = some x) (hv : (enc x)[j]? = some v) : (xs.flatMap enc)[i * sz + j]? = some v := by
  have h := take_drop_flat enc sz hl xs i x hi
  have hj : j < sz := by rw [← hl x]; exact (List.getElem?_eq_some_iff.1 hv).1
  rw [← h, List.getElem?_take, if_pos hj, List.getElem?_drop] at hv
  exact hv
/-- A row of spots as the sort's row, and back. -/
theorem flatK_spots (l : List (S63)) : (flatK enc63 2 l.toArray).toList = l.flatMap enc63 := by
  apply List.ext_getElem?
  intro t
  have hl : (l.flatMap enc63).length = l.length * 2 := flat_length enc63 2 (fun _ => rfl) l
  by_cases h : t < l.length * 2
  · have hq : t / 2 < l.length := by omega
    have h1 := flat_at enc63 2 (fun _ => rfl) l (t / 2) (t % 2) l[t / 2] ((enc63 l[t / 2])[t % 2]'(by show _ < 2; omega)) (List.getElem?_eq_getElem hq) (List.getElem?_eq_getElem _)
    rw [show t / 2 * 2 + t % 2 = t by omega] at h1
    rw [h1, Array.getElem?_toList, Array.getElem?_eq_getElem (by simpa using h)]
    congr 1
    have h2 := get_flatK enc63 2 l.toArray t (by simpa using h)
    rw [getElem!_pos _ t (by simpa using h)] at h2
    rw [h2, getElem!_pos _ (t / 2) (by simpa using hq), getElem!_pos _ (t % 2) (by show _ < 2; omega)]
    rfl
  · rw [List.getElem?_eq_none (by simp; omega), List.getElem?_eq_none (by rw [hl]; omega)]
theorem take_putFlat (cur : Array Value) (F : Array Value) (h : F.size ≤ cur.size) : (putCells id 0 F cur).toList.take F.size = F.toList := by
  apply List.ext_getElem?
  intro j
  by_cases hj : j < F.size
  · rw [List.getElem?_take_of_lt hj, Array.getElem?_toList]
    simp [putCells, hj, show j < cur.size by omega]
  · rw [List.getElem?_take_eq_none (by omega), List.getElem?_eq_none (by simp; omega)]
set_option maxHeartbeats 1000000 in
/-- The sort of spots, in parts of memory. -/
theorem impl_RingOf.sort_ {w0 w : World} {ps : List Part} {v : Value} {xs : List (S63)} (hl : xs.length ≤ 1048576) (hS : St w0 w (Part.row k63 63 v xs :: ps)) :
    Calls Tryd.prog 40 #[v, .func (.func 41) #[] #[]] w fun e w' => e = .returned (.tuple #[]) ∧ St w0 w' (Part.row k63 63 v (xs.mergeSort leSp) :: ps) := by
  obtain ⟨A, n, c, rfl⟩ : ∃ A n c, v = .slice A n c := by obtain ⟨A, c, e, _⟩ := hS.reads; exact ⟨A, _, c, e⟩
  obtain ⟨hn, ho⟩ := row_flat F63 hS.head
  rcases ho with ⟨rfl, h0, rfl⟩ | ⟨g, cur, rfl, hk, hb, hc, hnc, hm, hs, ht⟩
  · subst h0
    obtain rfl := List.eq_nil_of_length_eq_zero hn.symm
    refine (AnyF.slices_SortFunc_none (P := Tryd.prog) (ρ := impl_RingOf.sortL_ren) { impl_RingOf.sortL with } none 0 (.func (.func 41) #[] #[]) w).mono ?_
    rintro e w' ⟨rfl, rfl⟩
    exact ⟨rfl, by simpa using hS⟩
  · subst hn
    have hsz : (k63).sz = 2 := rfl
    rw [hsz] at hs ht
    have hF : (flatK enc63 2 xs.toArray).size = xs.length * 2 := by simp
    have hH : HoldsK enc63 2 w g 0 xs.toArray := fun j hj => by
      have hj' : j < xs.length * 2 := by simpa using hj
      refine ⟨?_, by simp [World.frozen?, hc]⟩
      have h1 : (cur.toList.take (xs.length * 2))[j]? = (xs.flatMap enc63)[j]? := by rw [ht]
      rw [List.getElem?_take_of_lt hj', ← flatK_spots, Array.getElem?_toList, Array.getElem?_toList] at h1
      simp only [World.cell?, hc, Nat.zero_add]
      simp only [Option.isSome_none, Bool.false_eq_true, if_false]
      rw [h1, getElem!_pos _ j (by simpa using hj'), Array.getElem?_eq_getElem (by simpa using hj')]
      rfl
    have eg : ∀ args w, (callFunc 41 args).run Tryd.prog w = .ok (.enter 41 args) w := enters_of Tryd.func41 (by kernel_rfl) rfl
    have hcon := AnyQ.slices_SortFunc_total impl_RingOf.sortL 2 Tryd.isAgg63 Tryd.sizeOf63 enc63 (fun _ => rfl) F63.one cmpSp swoSp 41 #[] g 0 c xs.toArray w eg (fun m os dk _ x y => impl_RingOf.clo x y _) hH (blk_lt hc) (by simp; omega) totSp
    rw [geSp] at hcon
    refine hcon.mono ?_
    rintro e w' ⟨rfl, n, os, rfl⟩
    refine ⟨rfl, St.over F63.E hS (ok := fun k => some k = (Value.slice (some ⟨g, 0, none⟩) xs.length c).ownBlock) ?_ ?_⟩
    · refine ⟨rfl, rfl, rfl, by simp [sortWorldK, putRowK], fun k hk hne => ?_⟩
      have : g ≠ k := fun e => hne (by rw [e]; rfl)
      unfold sortWorldK putRowK
      rw [heap_grow_old _ _ (by simpa using hk)]
      simp [putRow, mapBlock, Sort.ahead, Array.getElem?_modify, this]
    · have hh : (sortWorldK enc63 2 w g 0 n (xs.toArray.toList.mergeSort leSp).toArray os).heap[g]? = some (.cells (putCells id 0 (flatK enc63 2 (xs.toArray.toList.mergeSort leSp).toArray) cur) 63 (0, 0)) := by
        unfold sortWorldK putRowK
        have hg := blk_lt hc
        rw [heap_grow_old _ _ (by simpa using hg)]
        simp [putRow, mapBlock, Sort.ahead, Array.getElem?_modify, hc, onCells]
      refine flat_row F63 rfl hb hh (by simp) hnc hm ?_ ?_
      · rw [hsz]; simp [putCells, hs]
      · rw [hsz]
        have h1 := take_putFlat cur (flatK enc63 2 (xs.mergeSort leSp).toArray) (by simp [hs]; exact Nat.mul_le_mul_right 2 hnc)
        rw [flatK_spots] at h1
        have e : (flatK enc63 2 (xs.mergeSort leSp).toArray).size = xs.length * 2 := by simp
        rw [e] at h1
        exact h1
set_option maxHeartbeats 4000000 in
set_option maxRecDepth 100000 in
theorem impl_RingOf.bad1 (A0 : Option Addr) (c0 : Nat) (l0 : List Int) (w : World) (hr0 : Kd.C (Kd.int .i64) w A0 l0.length l0) (hc0 : l0.length ≤ c0) (h1 : impl_inRange.f (l0.length : Int) 1 6 = some false) :
    Calls Tryd.prog 11 #[.slice A0 l0.length c0] w fun e w' => ∃ v0_ : Value, e = .returned (.tuple #[.agg #[v0_], .bool false]) ∧ Kd.R k63 63 w' w.heap.size (fun _ => True) v0_ [] ∧ Below w.heap.size w w' := by
  have huR := Tryd.underlying28
  have HS := Aside0.mk (St.start w)
  go_enter Tryd.func11, Tryd.ntmps11
  go_wp2_with fail
  have S := HS.out.alloc #[Value.slice none 0 0] 28
  clear HS
  refine (impl_inRange.calls (l0.length : Int) 1 6 false _ h1).mono ?_
  rintro e w1 ⟨rfl, hb⟩
  have S := S.step hb.below
  clear hb
  have HS := Aside0.mk S
  have hd0 := S.at_cell 0 rfl 0 rfl
  have hz0 := S.at_frozen 0 rfl 0
  clear S
  go_wp2_with fail
  have S := HS.out.put 0 (.slice none 0 0) rfl
  clear HS hd0 hz0
  refine bodyPost_ret (results_ct rfl _ _ _ 28 #[.slice none 0 0] (0, 0) _ rfl S.head.2 Tryd.underlying28 rfl (by kernel_rfl)) rfl ?_
  exact ⟨_, rfl, Kd.R_nil _ _ _ _ _, S.below⟩
set_option maxHeartbeats 4000000 in
set_option maxRecDepth 100000 in
theorem impl_RingOf.bad2 (A0 : Option Addr) (c0 : Nat) (l0 : List Int) (w : World) (hr0 : Kd.C (Kd.int .i64) w A0 l0.length l0) (hc0 : l0.length ≤ c0) (h1 : impl_inRange.f (l0.length : Int) 1 6 = some true) (h2 : ∃ K, impl_isAscending.f K l0 1 9 = some false) :
    Calls Tryd.prog 11 #[.slice A0 l0.length c0] w fun e w' => ∃ v0_ : Value, e = .returned (.tuple #[.agg #[v0_], .bool false]) ∧ Kd.R k63 63 w' w.heap.size (fun _ => True) v0_ [] ∧ Below w.heap.size w w' := by
  have huR := Tryd.underlying28
  have HS := Aside0.mk (St.start w)
  go_enter Tryd.func11, Tryd.ntmps11
  go_wp2_with fail
  have S := HS.out.alloc #[Value.slice none 0 0] 28
  clear HS
  refine (impl_inRange.calls (l0.length : Int) 1 6 true _ h1).mono ?_
  rintro e w1 ⟨rfl, hb⟩
  have S := S.step hb.below
  clear hb
  have HS := Aside0.mk S
  have hd0 := S.at_cell 0 rfl 0 rfl
  have hz0 := S.at_frozen 0 rfl 0
  clear S
  go_wp2_with fail
  obtain ⟨K2, hK2⟩ := h2
  refine (impl_isAscending.calls K2 A0 c0 l0 1 9 false _ (Kd.C_below hr0 HS.out.below) hc0 hK2).mono ?_
  rintro e w2 ⟨rfl, hb⟩
  have S := HS.out.step hb.below
  clear HS hb hd0 hz0 hK2
  have HS := Aside0.mk S
  have hd0 := S.at_cell 0 rfl 0 rfl
  have hz0 := S.at_frozen 0 rfl 0
  clear S
  go_wp2_with fail
  have S := HS.out.put 0 (.slice none 0 0) rfl
  clear HS hd0 hz0
  refine bodyPost_ret (results_ct rfl _ _ _ 28 #[.slice none 0 0] (0, 0) _ rfl S.head.2 Tryd.underlying28 rfl (by kernel_rfl)) rfl ?_
  exact ⟨_, rfl, Kd.R_nil _ _ _ _ _, S.below⟩
/-- A fact that the walk does not rewrite. -/
structure LtN (n m : Nat) : Prop where
  out : n < m
theorem flat_next {l : List Int} {i : Nat} (h : i < l.length) : (l.take (i + 1)).flatMap spots4 = (l.take i).flatMap spots4 ++ spots4 l[i] := by
  rw [List.take_add_one, List.getElem?_eq_getElem h, List.flatMap_append]
  simp
theorem flat4_len (l : List Int) : (l.flatMap spots4).length = l.length * 4 := by
  induction l with
  | nil => rfl
  | cons v l ih => rw [List.flatMap_cons, List.length_append, ih, List.length_cons]; show 4 + _ = _; omega
theorem spots4_next (v : Int) (k : Nat) (h : k < 4) : (spots4 v).take (k + 1) = (spots4 v).take k ++ [spotOf v k] := by
  have : k = 0 ∨ k = 1 ∨ k = 2 ∨ k = 3 := by omega
  rcases this with rfl | rfl | rfl | rfl <;> rfl
theorem name_eq (v k : Nat) : (digS v ++ (⟨#[45]⟩ : ByteArray)) ++ digS k = spotName v k := rfl
set_option maxHeartbeats 4000000 in
set_option maxRecDepth 100000 in
theorem impl_RingOf.good (A0 : Option Addr) (c0 : Nat) (l0 : List Int) (w : World) (hr0 : Kd.C (Kd.int .i64) w A0 l0.length l0) (hc0 : l0.length ≤ c0) (h1 : impl_inRange.f (l0.length : Int) 1 6 = some true) (h2 : ∃ K, impl_isAscending.f K l0 1 9 = some true) (hn : l0.length ≤ 6) (hv : ∀ v ∈ l0, 1 ≤ v ∧ v ≤ 9) :
    Calls Tryd.prog 11 #[.slice A0 l0.length c0] w fun e w' => ∃ v0_ : Value, e = .returned (.tuple #[.agg #[v0_], .bool true]) ∧ Kd.R k63 63 w' w.heap.size (fun _ => True) v0_ (ringL l0) ∧ Below w.heap.size w w' := by
  have huR := Tryd.underlying28
  have HS := Aside0.mk (St.start w)
  have HN := Aside0.mk hn
  have HV := Aside0.mk hv
  clear hn hv
  have HR := Aside0.mk hr0
  clear hr0
  go_enter Tryd.func11, Tryd.ntmps11
  go_wp2_with fail
  have S := HS.out.alloc #[Value.slice none 0 0] 28
  clear HS
  refine (impl_inRange.calls (l0.length : Int) 1 6 true _ h1).mono ?_
  rintro e w1 ⟨rfl, hb⟩
  have S := S.step hb.below
  clear hb
  have HS := Aside0.mk S
  clear S
  go_wp2_with fail
  obtain ⟨K2, hK2⟩ := h2
  refine (impl_isAscending.calls K2 A0 c0 l0 1 9 true _ (Kd.C_below HR.out HS.out.below) hc0 hK2).mono ?_
  rintro e w2 ⟨rfl, hb⟩
  have S := HS.out.step hb.below
  clear HS hb hK2
  have HS := Aside0.mk S
  clear S
  go_wp2_with fail
  have S := (HS.out.alloc #[Value.slice none 0 0] 28).nil_row k63 63
  clear HS
  have HS := Aside0.mk S
  have hp0 := S.at_lt 1 rfl
  clear S
  go_loopw [21] (fun v21 wr => ∃ (i : Nat) (v : Value), v21 = .int .i64 i ∧ Aside0 (i ≤ l0.length) ∧ Aside0 (St w wr [Part.row k63 63 v ((l0.take i).flatMap spots4), Part.blk w2.heap.size 28 #[v], Part.blk w.heap.size 28 #[Value.slice none 0 0]])) (fun v21 _ => l0.length - (Go.RowKit.intOf v21).toNat)
  case atStart => exact ⟨0, .slice none 0 0, rfl, ⟨by omega⟩, ⟨by simpa using HS.out⟩⟩
  case round =>
    clear HS hp0
    obtain ⟨i, v, rfl, HI, HS⟩ := hrel
    by_cases c1 : i < l0.length
    · have c1b : decide ((i : Int) < (l0.length : Int)) = true := decide_eq_true (by omega)
      have p5 : (0 : Int) ≤ (i : Int) := by omega
      have q5 : (i : Int) < (l0.length : Int) := by omega
      obtain ⟨ad, e5, hx0⟩ := Kd.at_int (Kd.C_below HR.out HS.out.below) (i : Int) p5 q5
      cases e5
      rw [Int.toNat_natCast, rd_at l0 i c1] at hx0
      obtain ⟨nd, hnd⟩ : ∃ x, x = l0[i] := ⟨_, rfl⟩
      have hnr : 1 ≤ nd ∧ nd ≤ 9 := by rw [hnd]; exact HV.out _ (List.getElem_mem c1)
      obtain ⟨vn, rfl⟩ : ∃ vn : Nat, nd = (vn : Int) := ⟨nd.toNat, by omega⟩
      have hvn : vn < 10 := by omega
      rw [← hnd] at hx0
      have HND := Aside0.mk (show ∃ m, m = i ∧ l0[m]? = some (vn : Int) from ⟨i, rfl, by rw [hnd, List.getElem?_eq_getElem c1]⟩)
      have HVN := Aside0.mk hvn
      have C1 := LtN.mk c1
      have p6 : i < 6 := by have := HN.out; omega
      have P6 := LtN.mk p6
      clear hnd hnr hvn c1
      replace p5 := eq_true p5
      replace q5 := eq_true q5
      go_wp2_with fail
      clear hx0
      go_loopw [25] (fun v25 wr => ∃ (k : Nat) (v : Value), v25 = .int .i64 k ∧ Aside0 (k ≤ 4) ∧ Aside0 (St w wr [Part.row k63 63 v ((l0.take i).flatMap spots4 ++ (spots4 (vn : Int)).take k), Part.blk w2.heap.size 28 #[v], Part.blk w.heap.size 28 #[Value.slice none 0 0]])) (fun v25 _ => 4 - (Go.RowKit.intOf v25).toNat)
      case atStart => exact ⟨0, v, rfl, ⟨by omega⟩, ⟨by simpa using HS.out⟩⟩
      case round =>
        clear HS v
        obtain ⟨k, v, rfl, HK, HS⟩ := hrel
        by_cases c2 : k < 4
        · have c2b : decide ((k : Int) < 4) = true := decide_eq_true (by omega)
          have C2 := LtN.mk c2
          have k6 : k < 1048576 := by omega
          clear c2
          go_wp2_with fail
          refine (impl_RingOf.dec vn HVN.out _).mono ?_
          rintro e w3 ⟨rfl, rfl⟩
          go_wp2_with fail
          refine (impl_RingOf.dec k (by have := C2.out; omega) _).mono ?_
          rintro e w3 ⟨rfl, rfl⟩
          go_wp2_with fail
          rw [name_eq]
          obtain ⟨hsh, hh⟩ : ∃ h, h = ((hashN (spotName vn k) 0 : Nat) : Int) := ⟨_, rfl⟩
          obtain ⟨Kh, hKh⟩ := hashI_ev (spotName vn k) (by show 3 ≤ _; omega) 0 (by omega)
          have hkh := hKh Kh (Nat.le_refl _)
          rw [← hh] at hkh
          have HH := Aside0.mk hh
          clear hKh hh
          refine (impl_HashOf.calls Kh (spotName vn k) 0 hsh _ hkh).mono ?_
          rintro e w4 ⟨rfl, hb⟩
          have S := HS.out.step hb
          clear HS hb hkh
          obtain ⟨acc, hacc⟩ : ∃ acc, acc = (l0.take i).flatMap spots4 ++ (spots4 (vn : Int)).take k := ⟨_, rfl⟩
          rw [← hacc] at S
          have HA := Aside0.mk hacc
          have HAL := Aside0.mk (show acc.length ≤ 1048576 by
            have h2_ : (spots4 (vn : Int)).length = 4 := rfl
            rw [hacc, List.length_append, flat4_len, List.length_take, List.length_take, h2_]
            have := P6.out; have := HK.out; have := HN.out; omega)
          clear hacc
          obtain ⟨acc2, hacc2⟩ : ∃ q, q = acc ++ [(⟨hsh, (vn : Int)⟩ : S63)] := ⟨_, rfl⟩
          have HA2 := Aside0.mk hacc2
          clear hacc2
          have HS := Aside0.mk S
          have hc0 := S.at_cell 1 rfl 0 rfl
          clear S
          go_wp2_with (first | ((with_reducible refine gate_builtin (b := .append) (xs := #[.tmp 36, .tmp 40]) rfl ?_); at_builtin; have S := HS.out; refine Kd.R_append k63 (w0 := w) w.heap.size rfl (.tmp 36) (.tmp 40) 26 63 (.agg #[(.int .i64 0), (.int .i64 0)]) 16 rfl Tryd.underlying26 info63 rfl (by decide) (by omega) v acc (⟨hsh, (vn : Int)⟩ : S63) [.int .i64 hsh, .int .i64 (vn : Int)] (fun k_ => w.heap.size ≤ k_) (fun _ => False) rfl (by first|(go_simp; done)|(go_simp; rfl)) ?aP (fun _ hk => hk.elim) ?aF ?aO ?aB ?aS ?aL ?_; (case aP => exact k63_mkM _ _ _ (⟨hsh, (vn : Int)⟩ : S63)); (case aB => exact S.below); (case aF => exact (fun k_ hk => Nat.le_trans S.below.size hk)); (case aO => exact (Kd.R_reok rfl (S.at_R 0 rfl) (fun k_ hk => Kd.R_base (S.at_R 0 rfl) k_ hk))); (case aS => exact S.below.size); (case aL => have := HAL.out; omega); intro v7 w7 ho hb hg hat; rw [← HA2.out] at ho; obtain ⟨A7, c7, rfl⟩ := Kd.R_slice ho; have S := S.appended F63.E hb hg ho hat; have HS7 := Aside0.mk S; have hq0 := S.at_cell 1 rfl 0 rfl; have hqz := S.at_frozen 1 rfl 0; clear S ho hb hg hat))
          have S := (HS7.out.front 1 rfl rfl).put 0 (.slice A7 acc2.length c7) rfl
          clear HS7 HS hq0 hqz hc0
          have HS := Aside0.mk (S.perm (List.Perm.swap _ _ _))
          clear S
          go_roundw
          case rel =>
            refine ⟨k + 1, .slice A7 acc2.length c7, by go_num, ⟨by have := C2.out; omega⟩, ⟨?_⟩⟩
            rw [spots4_next _ _ (by have := C2.out; omega), ← List.append_assoc, ← HA.out]
            have e : spotOf (vn : Int) k = (⟨hsh, (vn : Int)⟩ : S63) := by rw [HH.out]; rfl
            rw [e, ← HA2.out]
            exact HS.out
          case measure => have := C2.out; simp only [Go.RowKit.intOf]; omega
        · obtain rfl : k = 4 := by have := HK.out; omega
          clear c2 HK
          have e4 : (spots4 (vn : Int)).take 4 = spots4 (vn : Int) := List.take_of_length_le (Nat.le_refl 4)
          have S := HS.out
          rw [e4] at S
          obtain ⟨m, rfl, hm⟩ := HND.out
          have en : (l0.take (m + 1)).flatMap spots4 = (l0.take m).flatMap spots4 ++ spots4 (vn : Int) := by
            rw [flat_next C1.out]
            congr 2
            rw [List.getElem?_eq_getElem C1.out] at hm
            exact Option.some.inj hm
          rw [← en] at S
          clear HS e4 en hm
          have HS := Aside0.mk S
          clear S
          go_wp2_with fail
          go_roundw
          case rel => exact ⟨m + 1, v, by go_num, ⟨by have := C1.out; omega⟩, ⟨HS.out⟩⟩
          case measure => have := C1.out; simp only [Go.RowKit.intOf]; omega
    · obtain rfl : i = l0.length := by have := HI.out; omega
      have S := HS.out
      rw [List.take_of_length_le (Nat.le_refl _)] at S
      clear HS c1 HI
      obtain ⟨acc, hacc⟩ : ∃ acc, acc = l0.flatMap spots4 := ⟨_, rfl⟩
      rw [← hacc] at S
      have HA := Aside0.mk hacc
      have HAL := Aside0.mk (show acc.length ≤ 1048576 by rw [hacc, flat4_len]; have := HN.out; omega)
      clear hacc
      obtain ⟨Av, cv, rfl⟩ := Kd.R_slice (S.at_R 0 rfl)
      have HS := Aside0.mk S
      have hc0 := S.at_cell 1 rfl 0 rfl
      clear S
      go_wp2_with fail
      refine (impl_RingOf.sort_ HAL.out HS.out).mono ?_
      rintro e w5 ⟨rfl, S⟩
      clear HS hc0
      have HS := Aside0.mk S
      have hc0 := S.at_cell 1 rfl 0 rfl
      have hd0 := S.at_cell 2 rfl 0 rfl
      have hz0 := S.at_frozen 2 rfl 0
      clear S
      go_wp2_with fail
      have S := (HS.out.front 2 rfl rfl).put 0 (.slice Av acc.length cv) rfl
      clear HS hc0 hd0 hz0
      refine bodyPost_ret (results_ct rfl _ _ _ 28 #[.slice Av acc.length cv] (0, 0) _ rfl S.head.2 Tryd.underlying28 rfl (by kernel_rfl)) rfl ?_
      rw [show ringL l0 = acc.mergeSort leSp by rw [HA.out]; rfl]
      exact ⟨_, rfl, Kd.R_mono (S.at_R 1 rfl) (fun _ _ => trivial), S.below⟩
def impl_RingOf.f (l0 : List Int) : Option (List (S63) × Bool) := if validN l0 = true then some (ringL l0, true) else some ([], false)
theorem impl_RingOf.calls (A0 : Option Addr) (c0 : Nat) (l0 : List Int) (r1 : List (S63)) (r2 : Bool) (w : World) (hr0 : Kd.C (Kd.int .i64) w A0 l0.length l0) (hc0 : l0.length ≤ c0) (h : impl_RingOf.f l0 = some (r1, r2)) :
    Calls Tryd.prog 11 #[.slice A0 l0.length c0] w fun e w' => ∃ v0_ : Value, e = .returned (.tuple #[.agg #[v0_], .bool r2]) ∧ Kd.R k63 63 w' w.heap.size (fun _ => True) v0_ r1 ∧ Below w.heap.size w w' := by
  unfold impl_RingOf.f at h
  rw [validN_asc] at h
  by_cases h1 : 1 ≤ l0.length ∧ l0.length ≤ 6
  · have e1 : impl_inRange.f (l0.length : Int) 1 6 = some true := by unfold impl_inRange.f; rw [if_pos (by omega), decide_eq_true (by omega)]
    have ha := ascI_ev l0 (by omega)
    rw [decide_eq_true h1, Bool.true_and] at h
    cases e : okAsc none l0 with
    | true =>
      rw [e] at h ha
      rw [if_pos rfl] at h
      obtain ⟨rfl, rfl⟩ := Prod.mk.inj (Option.some.inj h)
      obtain ⟨K, hK⟩ := ha
      exact impl_RingOf.good A0 c0 l0 w hr0 hc0 e1 ⟨K, hK K (Nat.le_refl _)⟩ h1.2 ((okAsc_iff l0 none).1 e).1
    | false =>
      rw [e] at h ha
      rw [if_neg (by decide)] at h
      obtain ⟨rfl, rfl⟩ := Prod.mk.inj (Option.some.inj h)
      obtain ⟨K, hK⟩ := ha
      exact impl_RingOf.bad2 A0 c0 l0 w hr0 hc0 e1 ⟨K, hK K (Nat.le_refl _)⟩
  · have e1 : impl_inRange.f (l0.length : Int) 1 6 = some false := by
      unfold impl_inRange.f
      by_cases q : (l0.length : Int) ≥ 1
      · rw [if_pos q, decide_eq_false (by omega)]
      · rw [if_neg q]
    rw [decide_eq_false h1, Bool.false_and, if_neg (by decide)] at h
    obtain ⟨rfl, rfl⟩ := Prod.mk.inj (Option.some.inj h)
    exact impl_RingOf.bad1 A0 c0 l0 w hr0 hc0 e1
end

end Go.Proofs.YtphicebbbkjdhaaDoor.GFnExactRingOk
