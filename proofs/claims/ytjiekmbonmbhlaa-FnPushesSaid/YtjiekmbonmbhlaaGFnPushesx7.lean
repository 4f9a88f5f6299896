/- The walk of the law, over the walks of what it reaches: written for this claim. -/
import Derived.Test.YtjiekmbonmbhlaaGFnPushesx6
import Derived.Test.YtjiekmbonmbhlaaGFnPushesx2
import Derived.Test.YtjiekmbonmbhlaaGFnPushesx5
import Derived.Laws.CopyOwn
import Derived.Maps.Range
namespace Go.Proofs.Ytjiekmbonmbhlaa.GFnPushes
open Go.RowKit Go.Proofs.YtjiekmbonmbhlaaW.PrintWords Go.Proofs.YtjiekmbonmbhlaaW.PrintLast Go.Proofs.YtjiekmbonmbhlaaW.PrintMore
attribute [local go_sem] max2_int min2_int max_two min_two max_three min_three max_four min_four
set_option linter.unusedVariables false
set_option linter.unusedSimpArgs false
section
/-- A kind whose elements hold no rows of their own: its cells are told by the element. -/
structure Flat {α : Type} (d : Kd α) (enc : α → List Value) : Prop where
  E : d.E = []
  K : ∀ w x cs, d.K w x cs ↔ cs = enc x
  M : ∀ w base ok x cs, d.M w base ok x cs ↔ cs = enc x
  len : ∀ x, (enc x).length = d.sz
  one : ∀ x, ∀ v ∈ enc x, v.oneCell' = true
theorem take_drop_flat {α : Type} (enc : α → List Value) (sz : Nat) (hl : ∀ x, (enc x).length = sz) : ∀ (xs : List α) (j : Nat) (x : α), xs[j]? = some x → ((xs.flatMap enc).drop (j * sz)).take sz = enc x
  | [], j, x, h => by simp at h
  | y :: ys, 0, x, h => by
    obtain rfl := Option.some.inj h
    rw [List.flatMap_cons, Nat.zero_mul, List.drop_zero, List.take_left' (hl y)]
  | y :: ys, j + 1, x, h => by
    rw [List.flatMap_cons, Nat.succ_mul, Nat.add_comm, ← List.drop_drop, List.drop_left' (hl y)]
    exact take_drop_flat enc sz hl ys j x h
theorem flat_length {α : Type} (enc : α → List Value) (sz : Nat) (hl : ∀ x, (enc x).length = sz) : ∀ (xs : List α), (xs.flatMap enc).length = xs.length * sz
  | [] => by simp
  | y :: ys => by rw [List.flatMap_cons, List.length_append, hl, flat_length enc sz hl ys, List.length_cons, Nat.succ_mul, Nat.add_comm]
theorem reps_flat {α : Type} (enc : α → List Value) (sz : Nat) (hl : ∀ x, (enc x).length = sz) {R : α → List Value → Prop} (hR : ∀ x cs, R x cs ↔ cs = enc x) :
    ∀ (xs : List α) (cs : List Value), Reps R sz xs cs ↔ cs = xs.flatMap enc
  | [], cs => by
    constructor
    · rintro ⟨h, _⟩
      rw [List.length_nil, Nat.zero_mul] at h
      rw [List.eq_nil_of_length_eq_zero h]; rfl
    · rintro rfl; exact Reps.none _ _
  | y :: ys, cs => by
    constructor
    · rintro ⟨h, hr⟩
      have h0 : cs.take sz = enc y := by
        have := (hR _ _).1 (hr 0 y rfl)
        rwa [Nat.zero_mul, List.drop_zero] at this
      have h1 := (reps_flat enc sz hl hR ys (cs.drop sz)).1 ⟨by rw [List.length_drop, h, List.length_cons, Nat.succ_mul]; omega, fun j p hj => by
        have := hr (j + 1) p hj
        rwa [Nat.succ_mul, Nat.add_comm, ← List.drop_drop] at this⟩
      rw [List.flatMap_cons, ← h0, ← h1, List.take_append_drop]
    · rintro rfl
      exact ⟨flat_length enc sz hl _, fun j p hj => (hR _ _).2 (take_drop_flat enc sz hl _ j p hj)⟩
/-- A row of flat elements of the call's own, block and all. -/
theorem row_flat {α : Type} {d : Kd α} {enc : α → List Value} (F : Flat d enc) {e base : Nat} {ok : Nat → Prop} {w : World} {A : Option Addr} {n c : Nat} {xs : List α} (h : d.R e w base ok (.slice A n c) xs) :
    n = xs.length ∧ ((A = none ∧ n = 0 ∧ c = 0) ∨ ∃ g cur, A = some ⟨g, 0, none⟩ ∧ ok g ∧ base ≤ g ∧ w.heap[g]? = some (.cells cur e (0, 0)) ∧ n ≤ c ∧ c ≤ maxLen ∧ cur.size = c * d.sz ∧ cur.toList.take (n * d.sz) = xs.flatMap enc) := by
  obtain ⟨h0, inner, ⟨hlen, ho⟩, hr⟩ := h
  obtain rfl := (reps_flat enc d.sz F.len (fun x cs => F.M _ _ _ x cs) xs inner).1 hr
  rcases ho with ⟨hv, hn⟩ | ⟨g, cap, cur, hv, hb, hc, hn, hm, hs, ht⟩
  · obtain ⟨rfl, rfl, rfl⟩ := Value.slice.inj hv
    exact ⟨hn.symm, .inl ⟨rfl, rfl, rfl⟩⟩
  · obtain ⟨rfl, rfl, rfl⟩ := Value.slice.inj hv
    exact ⟨rfl, .inr ⟨g, cur, rfl, h0 g rfl, hb, hc, hn, hm, hs, ht⟩⟩
theorem flat_row {α : Type} {d : Kd α} {enc : α → List Value} (F : Flat d enc) {e base : Nat} {ok : Nat → Prop} {w : World} {g n c : Nat} {cur : Array Value} {xs : List α} (hk : ok g) (hb : base ≤ g)
    (hc : w.heap[g]? = some (.cells cur e (0, 0))) (hn : n = xs.length) (hnc : n ≤ c) (hm : c ≤ maxLen) (hs : cur.size = c * d.sz) (ht : cur.toList.take (n * d.sz) = xs.flatMap enc) :
    d.R e w base ok (.slice (some ⟨g, 0, none⟩) n c) xs := by
  subst hn
  refine ⟨fun k hk' => ?_, xs.flatMap enc, ⟨flat_length enc d.sz F.len xs, .inr ⟨g, c, cur, rfl, hb, hc, hnc, hm, hs, ht⟩⟩, (reps_flat enc d.sz F.len (fun x cs => F.M _ _ _ x cs) xs _).2 rfl⟩
  simp [Value.ownBlock] at hk'; rw [← hk']; exact hk
/-- A row that is read: its cells. -/
theorem read_flat {α : Type} {d : Kd α} {enc : α → List Value} (F : Flat d enc) {w : World} {A : Option Addr} {n : Nat} {xs : List α} (h : d.C w A n xs) (hp : 0 < n) :
    ∃ ad, A = some ad ∧ ∀ j v, (xs.flatMap enc)[j]? = some v → w.cell? (ad.add j) = some v := by
  obtain ⟨h1, _, h2⟩ := h
  obtain ⟨ad, e, hc⟩ := h2 hp
  refine ⟨ad, e, fun j v hj => ?_⟩
  have hjl : j < xs.length * d.sz := by
    have := (List.getElem?_eq_some_iff.1 hj).1
    rwa [flat_length enc d.sz F.len] at this
  have hs : 0 < d.sz := by
    rcases Nat.eq_zero_or_pos d.sz with h | h
    · rw [h, Nat.mul_zero] at hjl; omega
    · exact h
  have hq : j / d.sz < xs.length := Nat.div_lt_of_lt_mul (by rwa [Nat.mul_comm] at hjl)
  obtain ⟨c, hc1, hc2, hc3⟩ := hc (j / d.sz) xs[j / d.sz] (List.getElem?_eq_getElem hq)
  obtain rfl := (F.K _ _ _).1 hc2
  have ht := take_drop_flat enc d.sz F.len xs (j / d.sz) _ (List.getElem?_eq_getElem hq)
  have hm := Nat.mod_lt j hs
  have hdm := Nat.div_add_mod' j d.sz
  have := hc3 (j % d.sz) v (by
    rw [← ht, List.getElem?_take, if_pos hm, List.getElem?_drop, hdm]
    exact hj)
  rwa [hdm] at this
theorem read_flat' {α : Type} {d : Kd α} {enc : α → List Value} (F : Flat d enc) {w : World} {ad : Addr} {n : Nat} {xs : List α} (h : d.C w (some ad) n xs) (hp : 0 < n) (j : Nat) (v : Value) (hj : (xs.flatMap enc)[j]? = some v) : w.cell? (ad.add j) = some v := by
  obtain ⟨ad', e, hc⟩ := read_flat F h hp
  obtain rfl := Option.some.inj e
  exact hc j v hj
/-- Cells of a block, told as a list. -/
theorem blk_list {w : World} {g e : Nat} {cur : Array Value} (hc : w.heap[g]? = some (.cells cur e (0, 0))) {cs : List Value} {m : Nat} (ht : cur.toList.take m = cs) (j : Nat) (v : Value) (hj : cs[j]? = some v) : w.cell? ⟨g, j, none⟩ = some v := by
  rw [blk_cell hc j]
  subst ht
  rw [List.getElem?_take] at hj
  split at hj
  · rw [← Array.getElem?_toList]; exact hj
  · cases hj
/-- An element is stored over. -/
theorem flat_set {α : Type} (enc : α → List Value) (sz : Nat) (hl : ∀ x, (enc x).length = sz) : ∀ (xs : List α) (i : Nat) (x : α), i < xs.length → (xs.set i x).flatMap enc = (xs.flatMap enc).take (i * sz) ++ enc x ++ (xs.flatMap enc).drop (i * sz + sz)
  | [], i, x, h => absurd h (Nat.not_lt_zero _)
  | y :: ys, 0, x, h => by
    rw [List.set_cons_zero, List.flatMap_cons, List.flatMap_cons, Nat.zero_mul, List.take_zero, List.nil_append, Nat.zero_add, List.drop_left' (hl y)]
  | y :: ys, i + 1, x, h => by
    have hy := hl y
    rw [List.set_cons_succ, List.flatMap_cons, List.flatMap_cons, flat_set enc sz hl ys i x (by simpa using h), show (i + 1) * sz = (enc y).length + i * sz by rw [Nat.succ_mul, hy]; omega, Nat.add_assoc, List.take_length_add_append, List.drop_length_add_append]
    simp only [List.append_assoc]
end
/-- One cell of one element is stored over. -/
theorem flat_cell {α : Type} (enc : α → List Value) (sz : Nat) (hl : ∀ x, (enc x).length = sz) : ∀ (xs : List α) (i j : Nat) (x x' : α) (v : Value), xs[i]? = some x → j < sz → enc x' = (enc x).set j v → (xs.set i x').flatMap enc = (xs.flatMap enc).set (i * sz + j) v
  | [], i, j, x, x', v, h, _, _ => by simp at h
  | y :: ys, 0, j, x, x', v, h, hj, he => by
    obtain rfl := Option.some.inj h
    rw [List.set_cons_zero, List.flatMap_cons, List.flatMap_cons, Nat.zero_mul, Nat.zero_add, he, List.set_append_left _ _ (by rw [hl]; exact hj)]
  | y :: ys, i + 1, j, x, x', v, h, hj, he => by
    rw [List.set_cons_succ, List.flatMap_cons, List.flatMap_cons, flat_cell enc sz hl ys i j x x' v (by simpa using h) hj he, List.set_append_right _ _ (by rw [hl, Nat.succ_mul]; omega)]
    congr 2
    rw [hl, Nat.succ_mul]; omega
theorem flat_put {α : Type} {d : Kd α} {enc : α → List Value} (F : Flat d enc) {e base : Nat} {ok : Nat → Prop} {w : World} {g n c : Nat} {xs : List α} (h : d.R e w base ok (.slice (some ⟨g, 0, none⟩) n c) xs)
    {i j : Nat} {x x' : α} {v : Value} (hi : xs[i]? = some x) (hj : j < d.sz) (he : enc x' = (enc x).set j v) : d.R e (w.setCell ⟨g, i * d.sz + j, none⟩ v) base ok (.slice (some ⟨g, 0, none⟩) n c) (xs.set i x') := by
  obtain ⟨hn, ho⟩ := row_flat F h
  subst hn
  rcases ho with ⟨hA, _⟩ | ⟨g', cur, hA, hk, hb, hc, hn, hm, hs, ht⟩
  · cases hA
  · obtain rfl : g = g' := by injection hA with hA; injection hA
    refine flat_row F hk hb (blk_set hc (i * d.sz + j) v) (by simp) hn hm (by simp [hs]) ?_
    rw [Array.toList_setIfInBounds, flat_cell enc d.sz F.len xs i j x x' v hi hj he, ← ht, List.take_set]
section
/-! ### Memory in parts, none of which lies in another -/
structure Part where
  foot : Nat → Prop
  holds : World → Nat → Prop
  keep : ∀ {w w' : World} {b : Nat}, (∀ k, foot k → w'.heap[k]? = w.heap[k]?) → holds w b → holds w' b
  bound : ∀ {w : World} {b : Nat}, holds w b → ∀ k, foot k → b ≤ k ∧ k < w.heap.size
  lower : ∀ {w : World} {b b' : Nat}, b' ≤ b → holds w b → holds w b'
/-- A row whose elements hold no rows of their own. -/
def Part.row {α : Type} (d : Kd α) (e : Nat) (v : Value) (xs : List α) : Part where
  foot k := v.ownBlock = some k
  holds w b := d.R e w b (fun k => some k = v.ownBlock) v xs
  keep hm h := Kd.R_move h (fun k hk => hm k hk.symm)
  bound h k hk := ⟨Kd.R_base h k hk, Kd.R_lt h k hk⟩
  lower hb h := Kd.R_lower h hb
/-- A block of cells. -/
def Part.blk (g t : Nat) (cs : Array Value) : Part where
  foot k := k = g
  holds w b := b ≤ g ∧ w.heap[g]? = some (.cells cs t (0, 0))
  keep hm h := ⟨h.1, (hm _ rfl).trans h.2⟩
  bound h k hk := by subst hk; exact ⟨h.1, blk_lt h.2⟩
  lower hb h := ⟨Nat.le_trans hb h.1, h.2⟩
theorem Part.of_R {α : Type} {d : Kd α} {e b : Nat} {ok : Nat → Prop} {w : World} {v : Value} {xs : List α} (hE : d.E = []) (h : d.R e w b ok v xs) : (Part.row d e v xs).holds w b := by
  obtain ⟨h0, inner, ho, hr⟩ := Kd.R_bound h
  refine ⟨fun k hk => hk.symm, inner, ho, hr.imp_ (fun _ _ hp => d.M_mono (fun k hk => ?_) (d.M_bound hp))⟩
  obtain ⟨_, _, _, q, hq, _⟩ := hk
  rw [hE] at hq
  exact absurd hq (by simp)
/-- The memory made since w0: parts apart from each other. -/
structure St (w0 w : World) (ps : List Part) : Prop where
  below : Below w0.heap.size w0 w
  all : ∀ p ∈ ps, p.holds w w0.heap.size
  apart : ps.Pairwise (fun p q => ∀ k, p.foot k → ¬ q.foot k)
theorem St.start (w : World) : St w w [] := ⟨Below.refl _ _, by simp, List.Pairwise.nil⟩
section
variable {w0 w w' : World} {ps : List Part}
theorem St.move (h : St w0 w ps) (hb : Below w0.heap.size w0 w') (hm : ∀ p ∈ ps, ∀ k, p.foot k → w'.heap[k]? = w.heap[k]?) : St w0 w' ps := ⟨hb, fun p hp => p.keep (hm p hp) (h.all p hp), h.apart⟩
theorem St.step (h : St w0 w ps) (hb : Below w.heap.size w w') : St w0 w' ps := h.move (below_step h.below hb) (fun p hp k hk => hb.block k (p.bound (h.all p hp) k hk).2)
theorem St.drew (h : St w0 w ps) : St w0 w.drew ps := h.step (below_drew1 (Below.refl _ _))
theorem St.drewN (h : St w0 w ps) (n : Nat) : St w0 (w.drewN n) ps := h.step (pw_below_drewN (Below.refl _ _) n)
theorem St.tail {p : Part} (h : St w0 w (p :: ps)) : St w0 w ps := ⟨h.below, fun q hq => h.all q (List.mem_cons_of_mem _ hq), (List.pairwise_cons.1 h.apart).2⟩
theorem St.head {p : Part} (h : St w0 w (p :: ps)) : p.holds w w0.heap.size := h.all p (by simp)
theorem St.away {p : Part} (h : St w0 w (p :: ps)) : ∀ q ∈ ps, ∀ k, p.foot k → ¬ q.foot k := (List.pairwise_cons.1 h.apart).1
/-- A new part. -/
theorem St.new {p : Part} (h : St w0 w ps) (hb : Below w.heap.size w w') (hp : p.holds w' w.heap.size) : St w0 w' (p :: ps) := by
  have h' := h.step hb
  refine ⟨h'.below, fun q hq => ?_, List.pairwise_cons.2 ⟨fun q hq k hk hq' => ?_, h'.apart⟩⟩
  · rcases List.mem_cons.1 hq with rfl | hq
    · exact q.lower h.below.size hp
    · exact h'.all q hq
  · have h1 := (p.bound hp k hk).1
    have h2 := (q.bound (h.all q hq) k hq').2
    omega
theorem St.new_row {α : Type} {d : Kd α} {e : Nat} {ok : Nat → Prop} {v : Value} {xs : List α} (hE : d.E = []) (h : St w0 w ps) (hb : Below w.heap.size w w') (hr : d.R e w' w.heap.size ok v xs) : St w0 w' (Part.row d e v xs :: ps) := h.new hb (Part.of_R hE hr)
theorem St.new_blk {g t : Nat} {cs : Array Value} (h : St w0 w ps) (hb : Below w.heap.size w w') (hg : w.heap.size ≤ g) (hc : w'.heap[g]? = some (.cells cs t (0, 0))) : St w0 w' (Part.blk g t cs :: ps) := h.new (p := Part.blk g t cs) hb ⟨hg, hc⟩
/-- A row that is nowhere. -/
theorem St.nil_row {α : Type} (d : Kd α) (e : Nat) (h : St w0 w ps) : St w0 w (Part.row d e (.slice none 0 0) [] :: ps) :=
  ⟨h.below, fun q hq => (List.mem_cons.1 hq).elim (fun e' => e' ▸ Kd.R_nil d e w _ _) (h.all q), List.pairwise_cons.2 ⟨fun q _ k hk => by simp [Part.row, Value.ownBlock] at hk, h.apart⟩⟩
theorem St.perm {qs : List Part} (h : St w0 w ps) (hp : qs.Perm ps) : St w0 w qs := ⟨h.below, fun p hq => h.all p (hp.mem_iff.1 hq), (hp.pairwise_iff (fun hab k hk hk' => hab k hk' hk)).2 h.apart⟩
theorem St.swap {p q : Part} (h : St w0 w (p :: q :: ps)) : St w0 w (q :: p :: ps) := h.perm (List.Perm.swap _ _ _)
theorem St.sub {qs : List Part} (h : St w0 w ps) (hs : qs.Sublist ps) : St w0 w qs := ⟨h.below, fun p hp => h.all p (hs.subset hp), h.apart.sublist hs⟩
theorem perm_at {α : Type _} : ∀ (l : List α) (i : Nat) (h : i < l.length), (l[i] :: l.eraseIdx i).Perm l
  | a :: l, 0, _ => List.Perm.refl _
  | a :: l, i + 1, h => (List.Perm.swap _ _ _).trans ((perm_at l i (by simpa using h)).cons a)
/-- One part comes to the front. -/
theorem St.front {p : Part} {qs : List Part} (i : Nat) (h : St w0 w ps) (e : ps[i]? = some p) (e' : ps.eraseIdx i = qs) : St w0 w (p :: qs) := by
  subst e'
  refine h.perm ?_
  obtain ⟨hi, rfl⟩ := List.getElem?_eq_some_iff.1 e
  exact (perm_at _ _ hi)
theorem St.back {p : Part} {qs : List Part} (i : Nat) (h : St w0 w (p :: ps)) (e : qs[i]? = some p) (e' : qs.eraseIdx i = ps) : St w0 w qs := by
  subst e'
  refine h.perm ?_
  obtain ⟨hi, rfl⟩ := List.getElem?_eq_some_iff.1 e
  exact (perm_at _ _ hi).symm
/-- A block's cells. -/
theorem St.cell {g t : Nat} {cs : Array Value} (h : St w0 w (Part.blk g t cs :: ps)) (j : Nat) {v : Value} (e : cs[j]? = some v) : w.cell? ⟨g, j, none⟩ = some v := (blk_cell h.head.2 j).trans e
theorem St.frozen {g t : Nat} {cs : Array Value} (h : St w0 w (Part.blk g t cs :: ps)) (j : Nat) : w.frozen? ⟨g, j, none⟩ = false := blk_frozen h.head.2 j
theorem St.put {g t : Nat} {cs cs' : Array Value} (h : St w0 w (Part.blk g t cs :: ps)) (j : Nat) (u : Value) (e : cs.setIfInBounds j u = cs') : St w0 (w.setCell ⟨g, j, none⟩ u) (Part.blk g t cs' :: ps) := by
  subst e
  have hb := below_set (j := j) (v := u) h.below h.head.1
  refine ⟨hb, fun q hq => ?_, List.pairwise_cons.2 ⟨h.away, h.tail.apart⟩⟩
  rcases List.mem_cons.1 hq with rfl | hq
  · exact ⟨h.head.1, blk_set h.head.2 j u⟩
  · refine q.keep (fun k hk => Below.heap_setCell w ⟨g, j, none⟩ u k (fun ek => ?_)) (h.tail.all q hq)
    exact h.away q hq k ek hk
theorem St.at_cell {g t : Nat} {cs : Array Value} {v : Value} (h : St w0 w ps) (i : Nat) (e : ps[i]? = some (Part.blk g t cs)) (j : Nat) (e2 : cs[j]? = some v) : w.cell? ⟨g, j, none⟩ = some v := (blk_cell (h.all _ (List.mem_of_getElem? e)).2 j).trans e2
theorem St.at_frozen {g t : Nat} {cs : Array Value} (h : St w0 w ps) (i : Nat) (e : ps[i]? = some (Part.blk g t cs)) (j : Nat) : w.frozen? ⟨g, j, none⟩ = false := blk_frozen (h.all _ (List.mem_of_getElem? e)).2 j
theorem St.at_apart {p q : Part} (h : St w0 w ps) (i j : Nat) (e : ps[i]? = some p) (e2 : ps[j]? = some q) (hij : i ≠ j) : ∀ k, p.foot k → ¬ q.foot k := by
  obtain ⟨hi, rfl⟩ := List.getElem?_eq_some_iff.1 e
  obtain ⟨hj, rfl⟩ := List.getElem?_eq_some_iff.1 e2
  have hp := List.pairwise_iff_getElem.1 h.apart
  rcases Nat.lt_or_ge i j with hl | hl
  · exact hp i j hi hj hl
  · exact fun k h1 h2 => hp j i hj hi (by omega) k h2 h1
theorem St.at_ne {g t g' t' : Nat} {cs cs' : Array Value} (h : St w0 w ps) (i j : Nat) (e : ps[i]? = some (Part.blk g t cs)) (e2 : ps[j]? = some (Part.blk g' t' cs')) (hij : i ≠ j) : g ≠ g' := fun eg => h.at_apart i j e e2 hij g rfl eg
theorem St.at_own {α : Type} {d : Kd α} {e0 : Nat} {v : Value} {xs : List α} {g t : Nat} {cs : Array Value} (h : St w0 w ps) (i j : Nat) (e : ps[i]? = some (Part.blk g t cs)) (e2 : ps[j]? = some (Part.row d e0 v xs)) (hij : i ≠ j) : v.ownBlock ≠ some g := fun eg => h.at_apart i j e e2 hij g rfl eg
theorem St.at_C {α : Type} {d : Kd α} {e0 n c : Nat} {A : Option Addr} {xs : List α} (h : St w0 w ps) (i : Nat) (e : ps[i]? = some (Part.row d e0 (.slice A n c) xs)) : n = xs.length ∧ n ≤ c ∧ d.C w A xs.length xs := Kd.R_reads' (h.all _ (List.mem_of_getElem? e))
theorem St.at_R {α : Type} {d : Kd α} {e0 : Nat} {v : Value} {xs : List α} (h : St w0 w ps) (i : Nat) (e : ps[i]? = some (Part.row d e0 v xs)) : d.R e0 w w0.heap.size (fun k => some k = v.ownBlock) v xs := h.all _ (List.mem_of_getElem? e)
theorem St.at_lt {g t : Nat} {cs : Array Value} (h : St w0 w ps) (i : Nat) (e : ps[i]? = some (Part.blk g t cs)) : g < w.heap.size := blk_lt (h.all _ (List.mem_of_getElem? e)).2
/-- A new block of cells. -/
theorem St.alloc (h : St w0 w ps) (cs : Array Value) (t : Nat) : St w0 (w.alloc (.cells cs t (0, 0))) (Part.blk w.heap.size t cs :: ps) := h.new_blk (below_alloc (Below.refl _ _) _) (Nat.le_refl _) (blk_new w _)
/-- A row is read. -/
theorem St.reads {α : Type} {d : Kd α} {e : Nat} {v : Value} {xs : List α} (h : St w0 w (Part.row d e v xs :: ps)) : ∃ A c, v = .slice A xs.length c ∧ xs.length ≤ c ∧ d.C w A xs.length xs := Kd.R_reads h.head
theorem St.C {α : Type} {d : Kd α} {e n c : Nat} {A : Option Addr} {xs : List α} (h : St w0 w (Part.row d e (.slice A n c) xs :: ps)) : n = xs.length ∧ n ≤ c ∧ d.C w A xs.length xs := Kd.R_reads' h.head
/-- A row is written over (its block alone). -/
theorem St.over {α : Type} {d : Kd α} {e : Nat} {ok : Nat → Prop} {v : Value} {xs ys : List α} (hE : d.E = []) (h : St w0 w (Part.row d e v xs :: ps)) (hg : w.grownBy w' v.ownBlock) (hr : d.R e w' w0.heap.size ok v ys) : St w0 w' (Part.row d e v ys :: ps) := by
  refine ⟨h.below.grown hg h.below.size (fun k hk => Kd.R_base h.head k hk), fun q hq => ?_, List.pairwise_cons.2 ⟨h.away, h.tail.apart⟩⟩
  rcases List.mem_cons.1 hq with rfl | hq
  · exact Part.of_R hE hr
  · refine q.keep (fun k hk => hg.block k (q.bound (h.tail.all q hq) k hk).2 (fun ek => ?_)) (h.tail.all q hq)
    exact h.away q hq k ek.symm hk
/-- A row is appended to: it lies where it lay, or anew. -/
theorem St.appended {α : Type} {d : Kd α} {e : Nat} {ok : Nat → Prop} {v v1 : Value} {xs zs : List α} (hE : d.E = []) (h : St w0 w (Part.row d e v xs :: ps)) (hb : Below w0.heap.size w0 w') (hg : w.grownBy w' v.ownBlock) (hr : d.R e w' w0.heap.size ok v1 zs)
    (hat : v1.ownBlock = v.ownBlock ∨ ∃ b, v1.ownBlock = some b ∧ w.heap.size ≤ b) : St w0 w' (Part.row d e v1 zs :: ps) := by
  refine ⟨hb, fun q hq => ?_, List.pairwise_cons.2 ⟨fun q hq k hk hq' => ?_, h.tail.apart⟩⟩
  · rcases List.mem_cons.1 hq with rfl | hq
    · exact Part.of_R hE hr
    · refine q.keep (fun k hk => hg.block k (q.bound (h.tail.all q hq) k hk).2 (fun ek => ?_)) (h.tail.all q hq)
      exact h.away q hq k ek.symm hk
  · rcases hat with e1 | ⟨b, e1, hle⟩
    · exact h.away q hq k (by show v.ownBlock = some k; rw [← e1]; exact hk) hq'
    · have : some b = some k := e1.symm.trans hk
      have h2 := (q.bound (h.tail.all q hq) k hq').2
      injection this with this
      omega
/-- What a method does that writes a block and one row that hangs on it. -/
theorem St.via {α : Type} {d : Kd α} {e g t : Nat} {cs cs' : Array Value} {ok : Nat → Prop} {u u' : Value} {xs ys : List α} (hE : d.E = []) (h : St w0 w (Part.blk g t cs :: Part.row d e u xs :: ps))
    (hb : Below w0.heap.size w0 w') (hc : w'.heap[g]? = some (.cells cs' t (0, 0))) (hr : d.R e w' w0.heap.size ok u' ys) (hk : Kept w w' (fun k => some k = u.ownBlock ∨ k = g)) (hok : ∀ k, ok k → k ≠ g ∧ ∀ q ∈ ps, ¬ q.foot k) :
    St w0 w' (Part.blk g t cs' :: Part.row d e u' ys :: ps) := by
  have hown : ∀ k, u'.ownBlock = some k → k ≠ g ∧ ∀ q ∈ ps, ¬ q.foot k := fun k hk' => hok k (hr.1 k hk')
  refine ⟨hb, fun q hq => ?_, List.pairwise_cons.2 ⟨fun q hq k hk' hq' => ?_, List.pairwise_cons.2 ⟨fun q hq k hk' => (hown k hk').2 q hq, h.tail.tail.apart⟩⟩⟩
  · rcases List.mem_cons.1 hq with rfl | hq
    · exact ⟨h.head.1, hc⟩
    · rcases List.mem_cons.1 hq with rfl | hq
      · exact Part.of_R hE hr
      · refine q.keep (fun k hk' => hk.2 k (q.bound (h.tail.tail.all q hq) k hk').2 (fun hs => ?_)) (h.tail.tail.all q hq)
        rcases hs with hs | hs
        · exact h.tail.away q hq k hs.symm hk'
        · exact h.away q (List.mem_cons_of_mem _ hq) k hs hk'
  · rcases List.mem_cons.1 hq with hq | hq
    · subst hq; exact (hown k hq').1 hk'
    · exact h.away q (List.mem_cons_of_mem _ hq) k hk' hq'
/-- The places that a row may take, beside a block and other parts. -/
def Free (g : Nat) (ps : List Part) (k : Nat) : Prop := k ≠ g ∧ ∀ q ∈ ps, ¬ q.foot k
theorem St.row_free {α : Type} {d : Kd α} {e g t : Nat} {cs : Array Value} {u : Value} {xs : List α} (h : St w0 w (Part.blk g t cs :: Part.row d e u xs :: ps)) : d.R e w w0.heap.size (Free g ps) u xs :=
  Kd.R_mono h.tail.head (fun k hk => ⟨fun e' => h.away (Part.row d e u xs) (by simp) k e' hk.symm, fun q hq => h.tail.away q hq k hk.symm⟩)
theorem St.fresh {g t : Nat} {cs : Array Value} {p : Part} (h : St w0 w (Part.blk g t cs :: p :: ps)) : ∀ n, w.heap.size ≤ n → Free g ps n := fun n hn => ⟨fun e => by have := blk_lt h.head.2; omega, fun q hq hk => by have := (q.bound (h.tail.tail.all q hq) n hk).2; omega⟩
end
end
theorem FS : Flat Kd.string (fun s : ByteArray => [Value.string s]) where
  E := rfl
  K := fun _ _ _ => Iff.rfl
  M := fun _ _ _ _ _ => Iff.rfl
  len := fun _ => rfl
  one := fun x v h => by rw [List.mem_singleton.1 h]; rfl
theorem flat_strs (l : List ByteArray) : l.flatMap (fun s : ByteArray => [Value.string s]) = l.map Value.string := by
  induction l with
  | nil => rfl
  | cons a l ih => rw [List.flatMap_cons, ih]; rfl
set_option maxHeartbeats 4000000 in
set_option maxRecDepth 100000 in
theorem pushes_big (A0 : Option Addr) (c0 : Nat) (l0 : List Int) (w : World) (hr0 : Kd.C (Kd.int .u8) w A0 l0.length l0) (hc0 : l0.length ≤ c0) (h : laws_big.f l0 = some true) :
    Calls Try.prog 6 #[.slice A0 l0.length c0] w fun e w' => e = .returned (.bool true) ∧ Below w.heap.size w w' := by
  go_enter Try.func6, Try.ntmps6
  go_wp2_with fail
  refine (laws_big.calls A0 c0 l0 true _ hr0 hc0 h).mono ?_
  rintro e w1 ⟨rfl, hd⟩
  go_wp2_with fail
  go_ret
  exact ⟨rfl, hd.below⟩
set_option maxHeartbeats 4000000 in
set_option maxRecDepth 100000 in
theorem pushes_no (k : Nat) (A0 : Option Addr) (c0 : Nat) (l0 : List Int) (w : World) (hr0 : Kd.C (Kd.int .u8) w A0 l0.length l0) (hc0 : l0.length ≤ c0) (h : laws_big.f l0 = some false) (m : Int) (q : List ByteArray) (key : ByteArray) (h1 : spec_DrawRightQueue.f k l0 = some (m, q, key)) (pm : Int) (pl : List ByteArray) (left : ByteArray) (h2 : impl_Push.f k m q key = some (pm, pl, left, false)) (h3 : laws_has.f k q key = some true) (e1 : left = ⟨#[]⟩) (e2 : pl = []) :
    Calls Try.prog 6 #[.slice A0 l0.length c0] w fun e w' => e = .returned (.bool true) ∧ Below w.heap.size w w' := by
  subst e1 e2
  have hu26 := Try.underlying26
  have HS := Aside0.mk (St.start w)
  go_enter Try.func6, Try.ntmps6
  go_wp2_with fail
  refine (laws_big.calls A0 c0 l0 false _ hr0 hc0 h).mono ?_
  rintro e w1 ⟨rfl, hb⟩
  have S := HS.out.step hb.below
  clear HS hb
  have HS := Aside0.mk S
  clear S
  go_wp2_with fail
  refine (spec_DrawRightQueue.calls k A0 c0 l0 m q key _ (Kd.C_below hr0 HS.out.below) hc0 h1).mono ?_
  rintro e w2 ⟨v2, rfl, hR, hb⟩
  obtain ⟨A2, c2, rfl⟩ := Kd.R_slice hR
  have S := HS.out.new_row FS.E hb hR
  clear HS hb hR
  have HS := Aside0.mk S
  clear S
  go_wp2_with fail
  have S := HS.out.alloc #[Value.int .i64 m, Value.slice A2 q.length c2] 26
  clear HS
  refine (impl_Push.calls k m A2 c2 q key pm [] ⟨#[]⟩ false _ (S.at_C 1 rfl).2.2 (S.at_C 1 rfl).2.1 h2).mono ?_
  rintro e w3 ⟨v3, rfl, hR, hb⟩
  obtain ⟨A3, c3, rfl⟩ := Kd.R_slice hR
  have S := S.new_row FS.E hb hR
  clear hb hR
  generalize hg2 : w2.heap.size = g2 at *
  have HS := Aside0.mk S
  have hq0 := S.at_cell 1 rfl 0 rfl
  have hq1 := S.at_cell 1 rfl 1 rfl
  have hlt := S.at_lt 1 rfl
  clear S
  go_wp2_with fail
  have S := HS.out.alloc #[Value.int .i64 pm, Value.slice A3 0 c3] 26
  clear HS
  refine (laws_has.calls k A2 c2 q key true _ (S.at_C 3 rfl).2.2 (S.at_C 3 rfl).2.1 h3).mono ?_
  rintro e w4 ⟨rfl, hb⟩
  have S := S.step hb.below
  clear hb hq0 hq1 hlt
  generalize hg3 : w3.heap.size = g3 at *
  have HS := Aside0.mk S
  have hq0 := S.at_cell 2 rfl 0 rfl
  have hq1 := S.at_cell 2 rfl 1 rfl
  have hp0 := S.at_cell 0 rfl 0 rfl
  have hp1 := S.at_cell 0 rfl 1 rfl
  clear S
  go_wp2_with fail
  go_ret
  exact ⟨rfl, HS.out.below⟩
set_option maxHeartbeats 4000000 in
set_option maxRecDepth 100000 in
theorem pushes_room (k : Nat) (A0 : Option Addr) (c0 : Nat) (l0 : List Int) (w : World) (hr0 : Kd.C (Kd.int .u8) w A0 l0.length l0) (hc0 : l0.length ≤ c0) (h : laws_big.f l0 = some false) (m : Int) (q : List ByteArray) (key : ByteArray) (h1 : spec_DrawRightQueue.f k l0 = some (m, q, key)) (pm : Int) (pl : List ByteArray) (left : ByteArray) (h2 : impl_Push.f k m q key = some (pm, pl, left, true)) (h3 : laws_has.f k q key = some false) (hm : (q.length : Int) < m) (hq : q.length ≤ 1048576) (e1 : left = ⟨#[]⟩) (h4 : laws_sameTexts.f k pl (key :: q) = some true) :
    Calls Try.prog 6 #[.slice A0 l0.length c0] w fun e w' => e = .returned (.bool true) ∧ Below w.heap.size w w' := by
  subst e1
  have hmb : decide ((q.length : Int) < m) = true := decide_eq_true hm
  have hu26 := Try.underlying26
  have HS := Aside0.mk (St.start w)
  go_enter Try.func6, Try.ntmps6
  go_wp2_with fail
  refine (laws_big.calls A0 c0 l0 false _ hr0 hc0 h).mono ?_
  rintro e w1 ⟨rfl, hb⟩
  have S := HS.out.step hb.below
  clear HS hb
  have HS := Aside0.mk S
  clear S
  go_wp2_with fail
  refine (spec_DrawRightQueue.calls k A0 c0 l0 m q key _ (Kd.C_below hr0 HS.out.below) hc0 h1).mono ?_
  rintro e w2 ⟨v2, rfl, hR, hb⟩
  obtain ⟨A2, c2, rfl⟩ := Kd.R_slice hR
  have S := HS.out.new_row FS.E hb hR
  clear HS hb hR
  have HS := Aside0.mk S
  clear S
  go_wp2_with fail
  have S := HS.out.alloc #[Value.int .i64 m, Value.slice A2 q.length c2] 26
  clear HS
  refine (impl_Push.calls k m A2 c2 q key pm pl ⟨#[]⟩ true _ (S.at_C 1 rfl).2.2 (S.at_C 1 rfl).2.1 h2).mono ?_
  rintro e w3 ⟨v3, rfl, hR, hb⟩
  obtain ⟨A3, c3, rfl⟩ := Kd.R_slice hR
  have S := S.new_row FS.E hb hR
  clear hb hR
  generalize hg2 : w2.heap.size = g2 at *
  have HS := Aside0.mk S
  have hq0 := S.at_cell 1 rfl 0 rfl
  have hq1 := S.at_cell 1 rfl 1 rfl
  have hlt := S.at_lt 1 rfl
  clear S
  go_wp2_with fail
  have S := HS.out.alloc #[Value.int .i64 pm, Value.slice A3 pl.length c3] 26
  clear HS
  refine (laws_has.calls k A2 c2 q key false _ (S.at_C 3 rfl).2.2 (S.at_C 3 rfl).2.1 h3).mono ?_
  rintro e w4 ⟨rfl, hb⟩
  have S := S.step hb.below
  clear hb hq0 hq1 hlt
  generalize hg3 : w3.heap.size = g3 at *
  have HS := Aside0.mk S
  have hq0 := S.at_cell 2 rfl 0 rfl
  have hq1 := S.at_cell 2 rfl 1 rfl
  have hp0 := S.at_cell 0 rfl 0 rfl
  have hp1 := S.at_cell 0 rfl 1 rfl
  clear S
  go_wp2_with fail
  refine start_ (n := 13) (S := fun w' => w'.cell? ⟨g3, 1, none⟩ = some (.slice A3 pl.length c3) ∧ w'.cell? ⟨g2, 1, none⟩ = some (.slice A2 q.length c2)) (ds := []) #[false, false, false, false, false, false, false, false, false, false, false, false, false] (by kernel_rfl) rfl rfl ⟨hp1, hq1⟩ (fun hHeld => ?_)
  have S := HS.out.drew
  clear HS hp0 hp1 hq0 hq1
  (try clear hx)
  have HS := Aside0.mk S
  clear S
  generalize World.drew _ = wd at HS hHeld ⊢
  refine pure_ (i := 0) (N := some 45) (v := ?_) (a' := ?_) #[true, false, false, false, false, false, false, false, false, false, false, false, false] rfl rfl (by kernel_rfl) (fun _ _ _ h => h) (Or.inl ⟨by rfl, ?_⟩) ?_ ?_
  rotate_left
  · intro w'
    go_simp
    with_reducible rfl
  rotate_left
  · simp only [Act.put, List.setIfInBounds_toArray, List.set_cons_zero, List.set_cons_succ, i64_w, i32_w]
    rfl
  refine pure_ (i := 1) (N := some 46) (v := ?_) (a' := ?_) #[true, true, false, false, false, false, false, false, false, false, false, false, false] rfl rfl (by kernel_rfl) (fun _ _ _ h => h) (Or.inl ⟨by rfl, ?_⟩) ?_ ?_
  rotate_left
  · intro w'
    go_simp
    with_reducible rfl
  rotate_left
  · simp only [Act.put, List.setIfInBounds_toArray, List.set_cons_zero, List.set_cons_succ, i64_w, i32_w]
    rfl
  refine pure_ (i := 2) (N := some 47) (v := ?_) (a' := ?_) #[true, true, true, false, false, false, false, false, false, false, false, false, false] rfl rfl (by kernel_rfl) (fun _ _ _ h => h) (Or.inl ⟨by rfl, ?_⟩) ?_ ?_
  rotate_left
  · intro w'
    go_simp
    with_reducible rfl
  rotate_left
  · simp only [Act.put, List.setIfInBounds_toArray, List.set_cons_zero, List.set_cons_succ, i64_w, i32_w]
    rfl
  refine pure_ (i := 3) (N := some 48) (v := ?_) (a' := ?_) #[true, true, true, true, false, false, false, false, false, false, false, false, false] rfl rfl (by kernel_rfl) (fun _ _ _ h => h) (Or.inl ⟨by rfl, ?_⟩) ?_ ?_
  rotate_left
  · intro w'
    go_simp
    with_reducible rfl
  rotate_left
  · simp only [Act.put, List.setIfInBounds_toArray, List.set_cons_zero, List.set_cons_succ, i64_w, i32_w]
    rfl
  refine take_ (i := 4) (N := some 49) (v := ?_) (a' := ?_) #[true, true, true, true, true, false, false, false, false, false, false, false, false] rfl rfl (by kernel_rfl) (fun _ _ _ h => h) (Or.inl ⟨by rfl, ?_⟩) hHeld ?_ ?_
  rotate_left
  · intro w' hS_
    obtain ⟨hp1, hq1⟩ := hS_
    go_simp
    with_reducible rfl
  rotate_left
  · simp only [Act.put, List.setIfInBounds_toArray, List.set_cons_zero, List.set_cons_succ, i64_w, i32_w]
    rfl
  refine pure_ (i := 5) (N := some 50) (v := ?_) (a' := ?_) #[true, true, true, true, true, true, false, false, false, false, false, false, false] rfl rfl (by kernel_rfl) (fun _ _ _ h => h) (Or.inl ⟨by rfl, ?_⟩) ?_ ?_
  rotate_left
  · intro w'
    go_simp
    with_reducible rfl
  rotate_left
  · simp only [Act.put, List.setIfInBounds_toArray, List.set_cons_zero, List.set_cons_succ, i64_w, i32_w]
    rfl
  refine pure_ (i := 7) (N := some 52) (v := ?_) (a' := ?_) #[true, true, true, true, true, true, false, true, false, false, false, false, false] rfl rfl (by kernel_rfl) (fun _ _ _ h => h) (Or.inl ⟨by rfl, ?_⟩) ?_ ?_
  rotate_left
  · intro w'
    go_simp
    with_reducible rfl
  rotate_left
  · simp only [Act.put, List.setIfInBounds_toArray, List.set_cons_zero, List.set_cons_succ, i64_w, i32_w]
    rfl
  refine take_ (i := 8) (N := some 53) (v := ?_) (a' := ?_) #[true, true, true, true, true, true, false, true, true, false, false, false, false] rfl rfl (by kernel_rfl) (fun _ _ _ h => h) (Or.inl ⟨by rfl, ?_⟩) hHeld ?_ ?_
  rotate_left
  · intro w' hS_
    obtain ⟨hp1, hq1⟩ := hS_
    go_simp
    with_reducible rfl
  rotate_left
  · simp only [Act.put, List.setIfInBounds_toArray, List.set_cons_zero, List.set_cons_succ, i64_w, i32_w]
    rfl
  refine one_ (i := 6) (N := some 51) #[true, true, true, true, true, true, true, true, true, false, false, false, false] rfl rfl (by kernel_rfl) (by decide) (fun K hK => ?_)
  refine Kd.R_lit_step Kd.string (w0 := w) w.heap.size 9 ?hg (N := 51) ?hd (xs := [key]) (inner := [.string key]) (ok := fun _ => True) (okp := fun _ => True) ?hr ?hp (fun _ hk => hk) trivial HS.out.below HS.out.below.size (by simp) ?_
  case hd => rfl
  case hg => rfl
  case hr => first | (go_simp; done) | (go_simp; rfl)
  case hp => exact Kd.reps_scalar (enc := Value.string) [key]
  intro v5 w5 hR hb hg hnew
  obtain ⟨A5, c5, rfl⟩ := Kd.R_slice hR
  have S := HS.out.nil_row Kd.string 9
  have S := S.appended FS.E hb hg hR (.inr hnew)
  clear HS hR hb hg hnew
  have HS := Aside0.mk S
  refine hK.out _ _ ⟨S.at_cell 1 rfl 1 rfl, S.at_cell 3 rfl 1 rfl⟩ (fun hHeld => ?_)
  clear S
  clear hK K
  refine norm_ (a' := ?_) ?_ ?_
  rotate_left
  · show Act.put _ (some 51) _ = _
    simp only [Act.put, List.setIfInBounds_toArray, List.set_cons_zero, List.set_cons_succ, i64_w, i32_w]
    rfl
  refine one_ (i := 9) (N := some 54) #[true, true, true, true, true, true, true, true, true, true, false, false, false] rfl rfl (by kernel_rfl) (by decide) (fun K hK => ?_)
  refine Kd.R_append_rows_step Kd.string (w0 := w) w.heap.size (by rfl) (.tmp 51) (.tmp 53) 22 9 (.string ⟨#[]⟩) 16 rfl Try.underlying22 info9 rfl (by decide) (by omega) (.slice A5 1 c5) [key] q A2 q.length c2 (fun _ => True) (fun _ => False) rfl rfl ?aO ?aR (fun _ _ h => h) (fun _ h => h.elim) ?aF ?aB ?aS ?aL ?_
  case aO => exact Kd.R_mono (HS.out.at_R 0 rfl) (fun _ _ => trivial)
  case aR => exact (HS.out.at_C 4 rfl).2.2
  case aF => exact fun _ _ => trivial
  case aB => exact HS.out.below
  case aS => exact HS.out.below.size
  case aL => simp only [List.length_cons, List.length_nil]; omega
  intro v6 w6 hR hb hg hat
  obtain ⟨A6, c6, rfl⟩ := Kd.R_slice hR
  have S := HS.out.appended FS.E hb hg hR hat
  clear HS hR hb hg hat
  have HS := Aside0.mk S
  refine hK.out _ _ ⟨S.at_cell 1 rfl 1 rfl, S.at_cell 3 rfl 1 rfl⟩ (fun hHeld => ?_)
  clear S
  clear hK K
  refine norm_ (a' := ?_) ?_ ?_
  rotate_left
  · show Act.put _ (some 54) _ = _
    simp only [Act.put, List.setIfInBounds_toArray, List.set_cons_zero, List.set_cons_succ, i64_w, i32_w]
    rfl
  refine one_ (i := 10) (N := some 55) #[true, true, true, true, true, true, true, true, true, true, true, false, false] rfl rfl (by kernel_rfl) (by decide) (fun K hK => ?_)
  refine goes_ Try.func27 (by kernel_rfl) rfl #[.slice A3 pl.length c3, .slice A6 (key :: q).length c6] (by rfl) rfl rfl (by first | rfl | (simp only [List.map_toArray, List.map_cons, List.map_nil]; first | done | rfl)) ?_
  refine (laws_sameTexts.calls k A3 c3 pl A6 c6 (key :: q) true _ (HS.out.at_C 2 rfl).2.2 (HS.out.at_C 2 rfl).2.1 (HS.out.at_C 0 rfl).2.2 (HS.out.at_C 0 rfl).2.1 h4).mono ?_
  rintro e w7 ⟨rfl, hb⟩
  refine ⟨_, rfl, ?_⟩
  have S := HS.out.step hb.below
  clear HS hb
  have HS := Aside0.mk S
  refine hK.out _ _ ⟨S.at_cell 1 rfl 1 rfl, S.at_cell 3 rfl 1 rfl⟩ (fun hHeld => ?_)
  clear S
  clear hK K
  refine norm_ (a' := ?_) ?_ ?_
  rotate_left
  · show Act.put _ (some 55) _ = _
    simp only [Act.put, List.setIfInBounds_toArray, List.set_cons_zero, List.set_cons_succ, i64_w, i32_w]
    rfl
  refine pure_ (i := 11) (N := some 56) (v := ?_) (a' := ?_) #[true, true, true, true, true, true, true, true, true, true, true, true, false] rfl rfl (by kernel_rfl) (fun _ _ _ h => h) (Or.inl ⟨by rfl, ?_⟩) ?_ ?_
  rotate_left
  · intro w'
    go_simp
    with_reducible rfl
  rotate_left
  · simp only [Act.put, List.setIfInBounds_toArray, List.set_cons_zero, List.set_cons_succ, i64_w, i32_w]
    rfl
  refine pure_ (i := 12) (N := some 2) (v := ?_) (a' := ?_) #[true, true, true, true, true, true, true, true, true, true, true, true, true] rfl rfl (by kernel_rfl) (fun _ _ _ h => h) (Or.inl ⟨by rfl, ?_⟩) ?_ ?_
  rotate_left
  · intro w'
    go_simp
    with_reducible rfl
  rotate_left
  · simp only [Act.put, List.setIfInBounds_toArray, List.set_cons_zero, List.set_cons_succ, i64_w, i32_w]
    rfl
  refine done_ (by kernel_rfl) ?_
  go_wp2_with fail
  go_ret
  exact ⟨rfl, HS.out.below⟩
set_option maxHeartbeats 4000000 in
set_option maxRecDepth 100000 in
theorem pushes_full (k : Nat) (A0 : Option Addr) (c0 : Nat) (l0 : List Int) (w : World) (hr0 : Kd.C (Kd.int .u8) w A0 l0.length l0) (hc0 : l0.length ≤ c0) (h : laws_big.f l0 = some false) (m : Int) (q : List ByteArray) (key : ByteArray) (h1 : spec_DrawRightQueue.f k l0 = some (m, q, key)) (pm : Int) (pl : List ByteArray) (left : ByteArray) (h2 : impl_Push.f k m q key = some (pm, pl, left, true)) (h3 : laws_has.f k q key = some false) (hm : ¬ (q.length : Int) < m) (hq : q.length ≤ 1048576) (n : Nat) (hn : q.length = n + 1) (e1 : left = q.getD n ByteArray.empty) (h4 : laws_sameTexts.f k pl (key :: q.take n) = some true) (h5 : impl_QueueOk.f k pm pl = some true) :
    Calls Try.prog 6 #[.slice A0 l0.length c0] w fun e w' => e = .returned (.bool true) ∧ Below w.heap.size w w' := by
  have hmb : decide ((q.length : Int) < m) = false := decide_eq_false hm
  have hwn : wrap64 ((q.length : Int) - 1) = (n : Int) := by unfold wrap64; omega
  have hni : (n : Int) < (q.length : Int) := by omega
  have hq0_ : 0 < q.length := by omega
  have HN := Aside0.mk hn
  have HE := Aside0.mk e1
  have HQ := Aside0.mk hq
  have HW := Aside0.mk hwn
  have HI := Aside0.mk hni
  clear hn e1 hq hwn hni
  have hu26 := Try.underlying26
  have HS := Aside0.mk (St.start w)
  go_enter Try.func6, Try.ntmps6
  go_wp2_with fail
  refine (laws_big.calls A0 c0 l0 false _ hr0 hc0 h).mono ?_
  rintro e w1 ⟨rfl, hb⟩
  have S := HS.out.step hb.below
  clear HS hb
  have HS := Aside0.mk S
  clear S
  go_wp2_with fail
  refine (spec_DrawRightQueue.calls k A0 c0 l0 m q key _ (Kd.C_below hr0 HS.out.below) hc0 h1).mono ?_
  rintro e w2 ⟨v2, rfl, hR, hb⟩
  obtain ⟨gq, c2, rfl, _⟩ := Kd.R_form hR (by omega)
  have S := HS.out.new_row FS.E hb hR
  clear HS hb hR
  have HS := Aside0.mk S
  clear S
  go_wp2_with fail
  have S := HS.out.alloc #[Value.int .i64 m, Value.slice (some ⟨gq, 0, none⟩) q.length c2] 26
  clear HS
  refine (impl_Push.calls k m (some ⟨gq, 0, none⟩) c2 q key pm pl left true _ (S.at_C 1 rfl).2.2 (S.at_C 1 rfl).2.1 h2).mono ?_
  rintro e w3 ⟨v3, rfl, hR, hb⟩
  obtain ⟨A3, c3, rfl⟩ := Kd.R_slice hR
  have S := S.new_row FS.E hb hR
  clear hb hR
  generalize hg2 : w2.heap.size = g2 at *
  have HS := Aside0.mk S
  have hq0 := S.at_cell 1 rfl 0 rfl
  have hq1 := S.at_cell 1 rfl 1 rfl
  have hlt := S.at_lt 1 rfl
  clear S
  go_wp2_with fail
  have S := HS.out.alloc #[Value.int .i64 pm, Value.slice A3 pl.length c3] 26
  clear HS
  refine (laws_has.calls k (some ⟨gq, 0, none⟩) c2 q key false _ (S.at_C 3 rfl).2.2 (S.at_C 3 rfl).2.1 h3).mono ?_
  rintro e w4 ⟨rfl, hb⟩
  have S := S.step hb.below
  clear hb hq0 hq1 hlt
  generalize hg3 : w3.heap.size = g3 at *
  have HS := Aside0.mk S
  have hq0 := S.at_cell 2 rfl 0 rfl
  have hq1 := S.at_cell 2 rfl 1 rfl
  have hp0 := S.at_cell 0 rfl 0 rfl
  have hp1 := S.at_cell 0 rfl 1 rfl
  clear S
  have hx : w4.cell? ⟨gq, n, none⟩ = some (.string left) := by
    have := (Kd.R_celln ByteArray.empty (HS.out.at_R 3 rfl) (n : Int) (by omega) HI.out).1
    rw [HE.out]; exact this
  have hni := HI.out
  have hwn := HW.out
  have hnc : n ≤ c2 := by have := (HS.out.at_C 3 rfl).2.1; have := HN.out; omega
  go_wp2_with fail
  refine start_ (n := 30) (S := fun w' => w'.cell? ⟨g3, 0, none⟩ = some (.int .i64 pm) ∧ w'.cell? ⟨g3, 1, none⟩ = some (.slice A3 pl.length c3) ∧ w'.cell? ⟨g2, 1, none⟩ = some (.slice (some ⟨gq, 0, none⟩) q.length c2) ∧ w'.cell? ⟨gq, n, none⟩ = some (.string left)) (ds := []) #[false, false, false, false, false, false, false, false, false, false, false, false, false, false, false, false, false, false, false, false, false, false, false, false, false, false, false, false, false, false] (by kernel_rfl) rfl rfl ⟨hp0, hp1, hq1, hx⟩ (fun hHeld => ?_)
  have S := HS.out.drew
  clear HS hp0 hp1 hq0 hq1
  (try clear hx)
  have HS := Aside0.mk S
  clear S
  generalize World.drew _ = wd at HS hHeld ⊢
  refine pure_ (i := 0) (N := some 57) (v := ?_) (a' := ?_) #[true, false, false, false, false, false, false, false, false, false, false, false, false, false, false, false, false, false, false, false, false, false, false, false, false, false, false, false, false, false] rfl rfl (by kernel_rfl) (fun _ _ _ h => h) (Or.inl ⟨by rfl, ?_⟩) ?_ ?_
  rotate_left
  · intro w'
    go_simp
    with_reducible rfl
  rotate_left
  · simp only [Act.put, List.setIfInBounds_toArray, List.set_cons_zero, List.set_cons_succ, i64_w, i32_w]
    rfl
  refine pure_ (i := 1) (N := some 58) (v := ?_) (a' := ?_) #[true, true, false, false, false, false, false, false, false, false, false, false, false, false, false, false, false, false, false, false, false, false, false, false, false, false, false, false, false, false] rfl rfl (by kernel_rfl) (fun _ _ _ h => h) (Or.inl ⟨by rfl, ?_⟩) ?_ ?_
  rotate_left
  · intro w'
    go_simp
    with_reducible rfl
  rotate_left
  · simp only [Act.put, List.setIfInBounds_toArray, List.set_cons_zero, List.set_cons_succ, i64_w, i32_w]
    rfl
  refine take_ (i := 2) (N := some 59) (v := ?_) (a' := ?_) #[true, true, true, false, false, false, false, false, false, false, false, false, false, false, false, false, false, false, false, false, false, false, false, false, false, false, false, false, false, false] rfl rfl (by kernel_rfl) (fun _ _ _ h => h) (Or.inl ⟨by rfl, ?_⟩) hHeld ?_ ?_
  rotate_left
  · intro w' hS_
    obtain ⟨hp0, hp1, hq1, hx⟩ := hS_
    go_simp
    with_reducible rfl
  rotate_left
  · simp only [Act.put, List.setIfInBounds_toArray, List.set_cons_zero, List.set_cons_succ, i64_w, i32_w]
    rfl
  refine pure_ (i := 3) (N := some 60) (v := ?_) (a' := ?_) #[true, true, true, true, false, false, false, false, false, false, false, false, false, false, false, false, false, false, false, false, false, false, false, false, false, false, false, false, false, false] rfl rfl (by kernel_rfl) (fun _ _ _ h => h) (Or.inl ⟨by rfl, ?_⟩) ?_ ?_
  rotate_left
  · intro w'
    go_simp
    with_reducible rfl
  rotate_left
  · simp only [Act.put, List.setIfInBounds_toArray, List.set_cons_zero, List.set_cons_succ, i64_w, i32_w]
    rfl
  refine take_ (i := 4) (N := some 61) (v := ?_) (a' := ?_) #[true, true, true, true, true, false, false, false, false, false, false, false, false, false, false, false, false, false, false, false, false, false, false, false, false, false, false, false, false, false] rfl rfl (by kernel_rfl) (fun _ _ _ h => h) (Or.inl ⟨by rfl, ?_⟩) hHeld ?_ ?_
  rotate_left
  · intro w' hS_
    obtain ⟨hp0, hp1, hq1, hx⟩ := hS_
    go_simp
    with_reducible rfl
  rotate_left
  · simp only [Act.put, List.setIfInBounds_toArray, List.set_cons_zero, List.set_cons_succ, i64_w, i32_w]
    rfl
  refine pure_ (i := 5) (N := some 62) (v := ?_) (a' := ?_) #[true, true, true, true, true, true, false, false, false, false, false, false, false, false, false, false, false, false, false, false, false, false, false, false, false, false, false, false, false, false] rfl rfl (by kernel_rfl) (fun _ _ _ h => h) (Or.inl ⟨by rfl, ?_⟩) ?_ ?_
  rotate_left
  · intro w'
    go_simp
    with_reducible rfl
  rotate_left
  · simp only [Act.put, List.setIfInBounds_toArray, List.set_cons_zero, List.set_cons_succ, i64_w, i32_w]
    rfl
  refine pure_ (i := 6) (N := some 63) (v := ?_) (a' := ?_) #[true, true, true, true, true, true, true, false, false, false, false, false, false, false, false, false, false, false, false, false, false, false, false, false, false, false, false, false, false, false] rfl rfl (by kernel_rfl) (fun _ _ _ h => h) (Or.inl ⟨by rfl, ?_⟩) ?_ ?_
  rotate_left
  · intro w'
    go_simp
    with_reducible rfl
  rotate_left
  · simp only [Act.put, List.setIfInBounds_toArray, List.set_cons_zero, List.set_cons_succ, i64_w, i32_w]
    rfl
  refine pure_ (i := 7) (N := some 64) (v := ?_) (a' := ?_) #[true, true, true, true, true, true, true, true, false, false, false, false, false, false, false, false, false, false, false, false, false, false, false, false, false, false, false, false, false, false] rfl rfl (by kernel_rfl) (fun _ _ _ h => h) (Or.inl ⟨by rfl, ?_⟩) ?_ ?_
  rotate_left
  · intro w'
    go_simp
    with_reducible rfl
  rotate_left
  · simp only [Act.put, List.setIfInBounds_toArray, List.set_cons_zero, List.set_cons_succ, i64_w, i32_w]
    rfl
  refine take_ (i := 8) (N := some 65) (v := ?_) (a' := ?_) #[true, true, true, true, true, true, true, true, true, false, false, false, false, false, false, false, false, false, false, false, false, false, false, false, false, false, false, false, false, false] rfl rfl (by kernel_rfl) (fun _ _ _ h => h) (Or.inl ⟨by rfl, ?_⟩) hHeld ?_ ?_
  rotate_left
  · intro w' hS_
    obtain ⟨hp0, hp1, hq1, hx⟩ := hS_
    go_simp
    with_reducible rfl
  rotate_left
  · simp only [Act.put, List.setIfInBounds_toArray, List.set_cons_zero, List.set_cons_succ, i64_w, i32_w]
    rfl
  refine pure_ (i := 9) (N := some 66) (v := ?_) (a' := ?_) #[true, true, true, true, true, true, true, true, true, true, false, false, false, false, false, false, false, false, false, false, false, false, false, false, false, false, false, false, false, false] rfl rfl (by kernel_rfl) (fun _ _ _ h => h) (Or.inl ⟨by rfl, ?_⟩) ?_ ?_
  rotate_left
  · intro w'
    go_simp
    with_reducible rfl
  rotate_left
  · simp only [Act.put, List.setIfInBounds_toArray, List.set_cons_zero, List.set_cons_succ, i64_w, i32_w]
    rfl
  refine pure_ (i := 10) (N := some 67) (v := ?_) (a' := ?_) #[true, true, true, true, true, true, true, true, true, true, true, false, false, false, false, false, false, false, false, false, false, false, false, false, false, false, false, false, false, false] rfl rfl (by kernel_rfl) (fun _ _ _ h => h) (Or.inl ⟨by rfl, ?_⟩) ?_ ?_
  rotate_left
  · intro w'
    go_simp
    with_reducible rfl
  rotate_left
  · simp only [Act.put, List.setIfInBounds_toArray, List.set_cons_zero, List.set_cons_succ, i64_w, i32_w]
    rfl
  refine pure_ (i := 11) (N := some 68) (v := ?_) (a' := ?_) #[true, true, true, true, true, true, true, true, true, true, true, true, false, false, false, false, false, false, false, false, false, false, false, false, false, false, false, false, false, false] rfl rfl (by kernel_rfl) (fun _ _ _ h => h) (Or.inl ⟨by rfl, ?_⟩) ?_ ?_
  rotate_left
  · intro w'
    go_simp
    with_reducible rfl
  rotate_left
  · simp only [Act.put, List.setIfInBounds_toArray, List.set_cons_zero, List.set_cons_succ, i64_w, i32_w]
    rfl
  refine take_ (i := 12) (N := some 69) (v := ?_) (a' := ?_) #[true, true, true, true, true, true, true, true, true, true, true, true, true, false, false, false, false, false, false, false, false, false, false, false, false, false, false, false, false, false] rfl rfl (by kernel_rfl) (fun _ _ _ h => h) (Or.inl ⟨by rfl, ?_⟩) hHeld ?_ ?_
  rotate_left
  · intro w' hS_
    obtain ⟨hp0, hp1, hq1, hx⟩ := hS_
    go_simp
    with_reducible rfl
  rotate_left
  · simp only [Act.put, List.setIfInBounds_toArray, List.set_cons_zero, List.set_cons_succ, i64_w, i32_w]
    rfl
  refine pure_ (i := 13) (N := some 70) (v := ?_) (a' := ?_) #[true, true, true, true, true, true, true, true, true, true, true, true, true, true, false, false, false, false, false, false, false, false, false, false, false, false, false, false, false, false] rfl rfl (by kernel_rfl) (fun _ _ _ h => h) (Or.inl ⟨by rfl, ?_⟩) ?_ ?_
  rotate_left
  · intro w'
    go_simp
    with_reducible rfl
  rotate_left
  · simp only [Act.put, List.setIfInBounds_toArray, List.set_cons_zero, List.set_cons_succ, i64_w, i32_w]
    rfl
  refine pure_ (i := 15) (N := some 72) (v := ?_) (a' := ?_) #[true, true, true, true, true, true, true, true, true, true, true, true, true, true, false, true, false, false, false, false, false, false, false, false, false, false, false, false, false, false] rfl rfl (by kernel_rfl) (fun _ _ _ h => h) (Or.inl ⟨by rfl, ?_⟩) ?_ ?_
  rotate_left
  · intro w'
    go_simp
    with_reducible rfl
  rotate_left
  · simp only [Act.put, List.setIfInBounds_toArray, List.set_cons_zero, List.set_cons_succ, i64_w, i32_w]
    rfl
  refine take_ (i := 16) (N := some 73) (v := ?_) (a' := ?_) #[true, true, true, true, true, true, true, true, true, true, true, true, true, true, false, true, true, false, false, false, false, false, false, false, false, false, false, false, false, false] rfl rfl (by kernel_rfl) (fun _ _ _ h => h) (Or.inl ⟨by rfl, ?_⟩) hHeld ?_ ?_
  rotate_left
  · intro w' hS_
    obtain ⟨hp0, hp1, hq1, hx⟩ := hS_
    go_simp
    with_reducible rfl
  rotate_left
  · simp only [Act.put, List.setIfInBounds_toArray, List.set_cons_zero, List.set_cons_succ, i64_w, i32_w]
    rfl
  refine pure_ (i := 17) (N := some 74) (v := ?_) (a' := ?_) #[true, true, true, true, true, true, true, true, true, true, true, true, true, true, false, true, true, true, false, false, false, false, false, false, false, false, false, false, false, false] rfl rfl (by kernel_rfl) (fun _ _ _ h => h) (Or.inl ⟨by rfl, ?_⟩) ?_ ?_
  rotate_left
  · intro w'
    go_simp
    with_reducible rfl
  rotate_left
  · simp only [Act.put, List.setIfInBounds_toArray, List.set_cons_zero, List.set_cons_succ, i64_w, i32_w]
    rfl
  refine take_ (i := 18) (N := some 75) (v := ?_) (a' := ?_) #[true, true, true, true, true, true, true, true, true, true, true, true, true, true, false, true, true, true, true, false, false, false, false, false, false, false, false, false, false, false] rfl rfl (by kernel_rfl) (fun _ _ _ h => h) (Or.inl ⟨by rfl, ?_⟩) hHeld ?_ ?_
  rotate_left
  · intro w' hS_
    obtain ⟨hp0, hp1, hq1, hx⟩ := hS_
    go_simp
    with_reducible rfl
  rotate_left
  · simp only [Act.put, List.setIfInBounds_toArray, List.set_cons_zero, List.set_cons_succ, i64_w, i32_w]
    rfl
  refine pure_ (i := 19) (N := some 76) (v := ?_) (a' := ?_) #[true, true, true, true, true, true, true, true, true, true, true, true, true, true, false, true, true, true, true, true, false, false, false, false, false, false, false, false, false, false] rfl rfl (by kernel_rfl) (fun _ _ _ h => h) (Or.inl ⟨by rfl, ?_⟩) ?_ ?_
  rotate_left
  · intro w'
    go_simp
    with_reducible rfl
  rotate_left
  · simp only [Act.put, List.setIfInBounds_toArray, List.set_cons_zero, List.set_cons_succ, i64_w, i32_w]
    rfl
  refine pure_ (i := 20) (N := some 77) (v := ?_) (a' := ?_) #[true, true, true, true, true, true, true, true, true, true, true, true, true, true, false, true, true, true, true, true, true, false, false, false, false, false, false, false, false, false] rfl rfl (by kernel_rfl) (fun _ _ _ h => h) (Or.inl ⟨by rfl, ?_⟩) ?_ ?_
  rotate_left
  · intro w'
    go_simp
    with_reducible rfl
  rotate_left
  · simp only [Act.put, List.setIfInBounds_toArray, List.set_cons_zero, List.set_cons_succ, i64_w, i32_w]
    rfl
  refine pure_ (i := 21) (N := some 78) (v := ?_) (a' := ?_) #[true, true, true, true, true, true, true, true, true, true, true, true, true, true, false, true, true, true, true, true, true, true, false, false, false, false, false, false, false, false] rfl rfl (by kernel_rfl) (fun _ _ _ h => h) (Or.inl ⟨by rfl, ?_⟩) ?_ ?_
  rotate_left
  · intro w'
    go_simp
    with_reducible rfl
  rotate_left
  · simp only [Act.put, List.setIfInBounds_toArray, List.set_cons_zero, List.set_cons_succ, i64_w, i32_w]
    rfl
  refine one_ (i := 14) (N := some 71) #[true, true, true, true, true, true, true, true, true, true, true, true, true, true, true, true, true, true, true, true, true, true, false, false, false, false, false, false, false, false] rfl rfl (by kernel_rfl) (by decide) (fun K hK => ?_)
  refine Kd.R_lit_step Kd.string (w0 := w) w.heap.size 9 ?hg (N := 71) ?hd (xs := [key]) (inner := [.string key]) (ok := fun _ => True) (okp := fun _ => True) ?hr ?hp (fun _ hk => hk) trivial HS.out.below HS.out.below.size (by simp) ?_
  case hd => rfl
  case hg => rfl
  case hr => first | (go_simp; done) | (go_simp; rfl)
  case hp => exact Kd.reps_scalar (enc := Value.string) [key]
  intro v5 w5 hR hb hg hnew
  obtain ⟨A5, c5, rfl⟩ := Kd.R_slice hR
  have S := HS.out.nil_row Kd.string 9
  have S := S.appended FS.E hb hg hR (.inr hnew)
  clear HS hR hb hg hnew
  have HS := Aside0.mk S
  refine hK.out _ _ ⟨S.at_cell 1 rfl 0 rfl, S.at_cell 1 rfl 1 rfl, S.at_cell 3 rfl 1 rfl, by have h_ := (Kd.R_celln ByteArray.empty (S.at_R 4 rfl) (n : Int) (by omega) HI.out).1; rw [HE.out]; exact h_⟩ (fun hHeld => ?_)
  clear S
  clear hK K
  refine norm_ (a' := ?_) ?_ ?_
  rotate_left
  · show Act.put _ (some 71) _ = _
    simp only [Act.put, List.setIfInBounds_toArray, List.set_cons_zero, List.set_cons_succ, i64_w, i32_w]
    rfl
  refine one_ (i := 22) (N := some 79) #[true, true, true, true, true, true, true, true, true, true, true, true, true, true, true, true, true, true, true, true, true, true, true, false, false, false, false, false, false, false] rfl rfl (by kernel_rfl) (by decide) (fun K hK => ?_)
  refine Kd.R_append_rows_step Kd.string (w0 := w) w.heap.size (by rfl) (.tmp 71) (.tmp 78) 22 9 (.string ⟨#[]⟩) 16 rfl Try.underlying22 info9 rfl (by decide) (by omega) (.slice A5 1 c5) [key] (q.take n) (some ⟨gq, 0, none⟩) n c2 (fun _ => True) (fun _ => False) rfl rfl ?aO ?aR (fun _ _ h => h) (fun _ h => h.elim) ?aF ?aB ?aS ?aL ?_
  case aO => exact Kd.R_mono (HS.out.at_R 0 rfl) (fun _ _ => trivial)
  case aR => exact by have h_ := (Kd.R_reads' (Kd.R_take (HS.out.at_R 4 rfl) (show n ≤ q.length by have := HN.out; omega))).2.2; rw [List.length_take, Nat.min_eq_left (by have := HN.out; omega)] at h_; exact h_
  case aF => exact fun _ _ => trivial
  case aB => exact HS.out.below
  case aS => exact HS.out.below.size
  case aL => have := HQ.out; have := HN.out; simp only [List.length_cons, List.length_nil]; omega
  intro v6 w6 hR hb hg hat
  obtain ⟨A6, c6, rfl⟩ := Kd.R_slice hR
  have S := HS.out.appended FS.E hb hg hR hat
  clear HS hR hb hg hat
  have HS := Aside0.mk S
  refine hK.out _ _ ⟨S.at_cell 1 rfl 0 rfl, S.at_cell 1 rfl 1 rfl, S.at_cell 3 rfl 1 rfl, by have h_ := (Kd.R_celln ByteArray.empty (S.at_R 4 rfl) (n : Int) (by omega) HI.out).1; rw [HE.out]; exact h_⟩ (fun hHeld => ?_)
  clear S
  clear hK K
  refine norm_ (a' := ?_) ?_ ?_
  rotate_left
  · show Act.put _ (some 79) _ = _
    simp only [Act.put, List.setIfInBounds_toArray, List.set_cons_zero, List.set_cons_succ, i64_w, i32_w]
    rfl
  refine one_ (i := 23) (N := some 80) #[true, true, true, true, true, true, true, true, true, true, true, true, true, true, true, true, true, true, true, true, true, true, true, true, false, false, false, false, false, false] rfl rfl (by kernel_rfl) (by decide) (fun K hK => ?_)
  refine goes_ Try.func27 (by kernel_rfl) rfl #[.slice A3 pl.length c3, .slice A6 (key :: q.take n).length c6] (by rfl) rfl rfl (by first | rfl | (simp only [List.map_toArray, List.map_cons, List.map_nil]; first | done | rfl)) ?_
  refine (laws_sameTexts.calls k A3 c3 pl A6 c6 (key :: q.take n) true _ (HS.out.at_C 2 rfl).2.2 (HS.out.at_C 2 rfl).2.1 (HS.out.at_C 0 rfl).2.2 (HS.out.at_C 0 rfl).2.1 h4).mono ?_
  rintro e w7 ⟨rfl, hb⟩
  refine ⟨_, rfl, ?_⟩
  have S := HS.out.step hb.below
  clear HS hb
  have HS := Aside0.mk S
  refine hK.out _ _ ⟨S.at_cell 1 rfl 0 rfl, S.at_cell 1 rfl 1 rfl, S.at_cell 3 rfl 1 rfl, by have h_ := (Kd.R_celln ByteArray.empty (S.at_R 4 rfl) (n : Int) (by omega) HI.out).1; rw [HE.out]; exact h_⟩ (fun hHeld => ?_)
  clear S
  clear hK K
  refine norm_ (a' := ?_) ?_ ?_
  rotate_left
  · show Act.put _ (some 80) _ = _
    simp only [Act.put, List.setIfInBounds_toArray, List.set_cons_zero, List.set_cons_succ, i64_w, i32_w]
    rfl
  refine pure_ (i := 24) (N := some 81) (v := ?_) (a' := ?_) #[true, true, true, true, true, true, true, true, true, true, true, true, true, true, true, true, true, true, true, true, true, true, true, true, true, false, false, false, false, false] rfl rfl (by kernel_rfl) (fun _ _ _ h => h) (Or.inl ⟨by rfl, ?_⟩) ?_ ?_
  rotate_left
  · intro w'
    go_simp
    with_reducible rfl
  rotate_left
  · simp only [Act.put, List.setIfInBounds_toArray, List.set_cons_zero, List.set_cons_succ, i64_w, i32_w]
    rfl
  refine pure_ (i := 25) (N := some 82) (v := ?_) (a' := ?_) #[true, true, true, true, true, true, true, true, true, true, true, true, true, true, true, true, true, true, true, true, true, true, true, true, true, true, false, false, false, false] rfl rfl (by kernel_rfl) (fun _ _ _ h => h) (Or.inl ⟨by rfl, ?_⟩) ?_ ?_
  rotate_left
  · intro w'
    go_simp
    with_reducible rfl
  rotate_left
  · simp only [Act.put, List.setIfInBounds_toArray, List.set_cons_zero, List.set_cons_succ, i64_w, i32_w]
    rfl
  refine take_ (i := 26) (N := some 83) (v := ?_) (a' := ?_) #[true, true, true, true, true, true, true, true, true, true, true, true, true, true, true, true, true, true, true, true, true, true, true, true, true, true, true, false, false, false] rfl rfl (by kernel_rfl) (fun _ _ _ h => h) (Or.inl ⟨by rfl, ?_⟩) hHeld ?_ ?_
  rotate_left
  · intro w' hS_
    obtain ⟨hp0, hp1, hq1, hx⟩ := hS_
    go_simp
    with_reducible rfl
  rotate_left
  · simp only [Act.put, List.setIfInBounds_toArray, List.set_cons_zero, List.set_cons_succ, i64_w, i32_w]
    rfl
  refine one_ (i := 27) (N := some 84) #[true, true, true, true, true, true, true, true, true, true, true, true, true, true, true, true, true, true, true, true, true, true, true, true, true, true, true, true, false, false] rfl rfl (by kernel_rfl) (by decide) (fun K hK => ?_)
  refine goes_ Try.func28 (by kernel_rfl) rfl #[.agg #[.int .i64 pm, .slice A3 pl.length c3]] (by rfl) rfl rfl (by first | rfl | (simp only [List.map_toArray, List.map_cons, List.map_nil]; first | done | rfl)) ?_
  refine (impl_QueueOk.calls k pm A3 c3 pl true _ (HS.out.at_C 2 rfl).2.2 (HS.out.at_C 2 rfl).2.1 h5).mono ?_
  rintro e w8 ⟨rfl, hb⟩
  refine ⟨_, rfl, ?_⟩
  have S := HS.out.step hb
  clear HS hb
  have HS := Aside0.mk S
  refine hK.out _ _ ⟨S.at_cell 1 rfl 0 rfl, S.at_cell 1 rfl 1 rfl, S.at_cell 3 rfl 1 rfl, by have h_ := (Kd.R_celln ByteArray.empty (S.at_R 4 rfl) (n : Int) (by omega) HI.out).1; rw [HE.out]; exact h_⟩ (fun hHeld => ?_)
  clear S
  clear hK K
  refine norm_ (a' := ?_) ?_ ?_
  rotate_left
  · show Act.put _ (some 84) _ = _
    simp only [Act.put, List.setIfInBounds_toArray, List.set_cons_zero, List.set_cons_succ, i64_w, i32_w]
    rfl
  refine pure_ (i := 28) (N := some 85) (v := ?_) (a' := ?_) #[true, true, true, true, true, true, true, true, true, true, true, true, true, true, true, true, true, true, true, true, true, true, true, true, true, true, true, true, true, false] rfl rfl (by kernel_rfl) (fun _ _ _ h => h) (Or.inl ⟨by rfl, ?_⟩) ?_ ?_
  rotate_left
  · intro w'
    go_simp
    with_reducible rfl
  rotate_left
  · simp only [Act.put, List.setIfInBounds_toArray, List.set_cons_zero, List.set_cons_succ, i64_w, i32_w]
    rfl
  refine pure_ (i := 29) (N := some 2) (v := ?_) (a' := ?_) #[true, true, true, true, true, true, true, true, true, true, true, true, true, true, true, true, true, true, true, true, true, true, true, true, true, true, true, true, true, true] rfl rfl (by kernel_rfl) (fun _ _ _ h => h) (Or.inl ⟨by rfl, ?_⟩) ?_ ?_
  rotate_left
  · intro w'
    go_simp
    with_reducible rfl
  rotate_left
  · simp only [Act.put, List.setIfInBounds_toArray, List.set_cons_zero, List.set_cons_succ, i64_w, i32_w]
    rfl
  refine done_ (by kernel_rfl) ?_
  go_wp2_with fail
  go_ret
  exact ⟨rfl, HS.out.below⟩
def laws_FnPushes.Way (k : Nat) (l0 : List Int) : Prop := laws_big.f l0 = some true ∨ (laws_big.f l0 = some false ∧ ∃ m q key pm pl left ok, spec_DrawRightQueue.f k l0 = some (m, q, key) ∧ impl_Push.f k m q key = some (pm, pl, left, ok) ∧ laws_has.f k q key = some (!ok) ∧
  ((ok = false ∧ left = (⟨#[]⟩ : ByteArray) ∧ pl = []) ∨ (ok = true ∧ q.length ≤ 1048576 ∧ (((q.length : Int) < m ∧ left = (⟨#[]⟩ : ByteArray) ∧ laws_sameTexts.f k pl (key :: q) = some true) ∨
    (¬ (q.length : Int) < m ∧ ∃ n, q.length = n + 1 ∧ left = q.getD n ByteArray.empty ∧ laws_sameTexts.f k pl (key :: q.take n) = some true ∧ impl_QueueOk.f k pm pl = some true)))))
theorem laws_FnPushes.calls (k : Nat) (A0 : Option Addr) (c0 : Nat) (l0 : List Int) (w : World) (hr0 : Kd.C (Kd.int .u8) w A0 l0.length l0) (hc0 : l0.length ≤ c0) (h : laws_FnPushes.Way k l0) :
    Calls Try.prog 6 #[.slice A0 l0.length c0] w fun e w' => e = .returned (.bool true) ∧ Below w.heap.size w w' := by
  rcases h with h | ⟨h, m, q, key, pm, pl, left, ok, h1, h2, h3, h⟩
  · exact pushes_big A0 c0 l0 w hr0 hc0 h
  · rcases h with ⟨rfl, e1, e2⟩ | ⟨rfl, hq, ⟨hm, e1, h4⟩ | ⟨hm, n, hn, e1, h4, h5⟩⟩
    · exact pushes_no k A0 c0 l0 w hr0 hc0 h m q key h1 pm pl left h2 h3 e1 e2
    · exact pushes_room k A0 c0 l0 w hr0 hc0 h m q key h1 pm pl left h2 h3 hm hq e1 h4
    · exact pushes_full k A0 c0 l0 w hr0 hc0 h m q key h1 pm pl left h2 h3 hm hq n hn e1 h4 h5
def laws_FnPushes.Pure : Prop := ∀ (l0 : List Int), l0.length ≤ maxLen → l0.length * 1 ≤ 140737488351232 → (∀ x ∈ l0, (Lit.int .u8 x).wf = true) → ∃ k, laws_FnPushes.Way k l0
theorem laws_FnPushes.walk (P : laws_FnPushes.Pure) (a0 : Option Addr) (len0 cap0 : Nat) (z0 : List Int) (w : World) (w0 : (a0 = none ∧ len0 = 0 ∧ cap0 = 0 ∧ z0 = []) ∨ ∃ x, a0 = some x ∧ len0 ≤ cap0 ∧ cap0 ≤ maxLen ∧ z0.length = cap0 ∧ (∀ i, i < z0.length → w.cell? (x.add i) = some (.int .u8 (z0.getD i 0))) ∧ ∀ n ∈ z0, (Lit.int .u8 n).wf = true) (y0 : len0 * 1 ≤ 140737488351232) :
    Calls Try.prog 6 #[.slice a0 len0 cap0] w fun e w' => e = .returned (.bool true) ∧ Below w.heap.size w w' := by
  obtain ⟨l0, rfl, hr0, hm0, hw0, hc0⟩ := ReadsInt.ofRowC w0
  obtain ⟨k, h⟩ := P l0 hm0 y0 hw0
  refine (laws_FnPushes.calls k _ _ l0 w (Kd.C_of_reads (d := (0 : Int)) (h1 := fun _ => rfl) hr0) hc0 h).mono ?_
  rintro e w' ⟨rfl, hd⟩
  exact ⟨rfl, hd⟩

end Go.Proofs.Ytjiekmbonmbhlaa.GFnPushes
