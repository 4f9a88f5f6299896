/- Walks of the functions that the law reaches: by programs of this session, over a tool's print. -/
import Derived.Test.YtjiekmbonmbhlaaGFnLiftsx0
import Derived.Test.YtjiekmbonmbhlaaGFnLiftsx2
import Derived.Test.YtjiekmbonmbhlaaGFnLiftsx3
namespace Go.Proofs.Ytjiekmbonmbhlaa.GFnLifts
open Go.RowKit Go.Proofs.YtjiekmbonmbhlaaW.PrintWords Go.Proofs.YtjiekmbonmbhlaaW.PrintLast Go.Proofs.YtjiekmbonmbhlaaW.PrintMore
attribute [local go_sem] max2_int min2_int max_two min_two max_three min_three max_four min_four   -- for this text's walks alone
set_option linter.unusedVariables false
set_option linter.unusedSimpArgs false


section
/-- A kind whose elements hold no rows of their own: its cells are told by the element. -/
structure Flat {α : Type} (d : Kd α) (enc : α → List Value) : Prop where
  E : d.E = []
  K : ∀ w x cs, d.K w x cs ↔ cs = enc x
  M : ∀ w base ok x cs, d.M w base ok x cs ↔ cs = enc x
  len : ∀ x, (enc x).length = d.sz
  one : ∀ x, ∀ v ∈ enc x, v.oneCell' = true
theorem take_drop_flat {α : Type} (enc : α → List Value) (sz : Nat) (hl : ∀ x, (enc x).length = sz) : ∀ (xs : List α) (j : Nat) (x : α), xs[j]? = some x → ((xs.flatMap enc).drop (j * sz)).take sz = enc x
 |[], j, x, h => by simp at h
 |y :: ys, 0, x, h => by
    obtain rfl := Option.some.inj h
    rw [List.flatMap_cons, Nat.zero_mul, List.drop_zero, List.take_left' (hl y)]
 |y :: ys, j + 1, x, h => by
    rw [List.flatMap_cons, Nat.succ_mul, Nat.add_comm, ← List.drop_drop, List.drop_left' (hl y)]
    exact take_drop_flat enc sz hl ys j x h
theorem flat_length {α : Type} (enc : α → List Value) (sz : Nat) (hl : ∀ x, (enc x).length = sz) : ∀ (xs : List α), (xs.flatMap enc).length = xs.length * sz
 |[] => by simp
 |y :: ys => by rw [List.flatMap_cons, List.length_append, hl, flat_length enc sz hl ys, List.length_cons, Nat.succ_mul, Nat.add_comm]
theorem reps_flat {α : Type} (enc : α → List Value) (sz : Nat) (hl : ∀ x, (enc x).length = sz) {R : α → List Value → Prop} (hR : ∀ x cs, R x cs ↔ cs = enc x) :
    ∀ (xs : List α) (cs : List Value), Reps R sz xs cs ↔ cs = xs.flatMap enc
 |[], cs => by
    constructor
    · rintro ⟨h, _⟩
      rw [List.length_nil, Nat.zero_mul] at h
      rw [List.eq_nil_of_length_eq_zero h]; rfl
    · rintro rfl; exact Reps.none _ _
 |y :: ys, cs => by
    constructor
    · rintro ⟨h, hr⟩
      have h0 : cs.take sz = enc y := by
        have := (hR _ _).1 (hr 0 y rfl)
        rwa [Nat.zero_mul, List.drop_zero] at this
      have h1 := (reps_flat enc sz hl hR ys (cs.drop sz)).1 ⟨by rw [List.length_drop, h, List.length_cons, Nat.succ_mul]; omega, fun j p hj => by
        have := hr (j + 1) p hj
        rwa [Nat.succ_mul, Nat.add_comm, ← List.drop_drop] at this⟩
      rw [List.flatMap_cons, ← h0, ← h1, List.take_append_drop]
    · rintro rfl
      exact ⟨flat_length enc sz hl _, fun j p hj => (hR _ _).2 (take_drop_flat enc sz hl _ j p hj)⟩
/-- A row of flat elements of the call's own, block and all. -/
theorem row_flat {α : Type} {d : Kd α} {enc : α → List Value} (F : Flat d enc) {e base : Nat} {ok : Nat → Prop} {w : World} {A : Option Addr} {n c : Nat} {xs : List α} (h : d.R e w base ok (.slice A n c) xs) :
    n = xs.length ∧ ((A = none ∧ n = 0 ∧ c = 0) ∨ ∃ g cur, A = some ⟨g, 0, none⟩ ∧ ok g ∧ base ≤ g ∧ w.heap[g]? = some (.cells cur e (0, 0)) ∧ n ≤ c ∧ c ≤ maxLen ∧ cur.size = c * d.sz ∧ cur.toList.take (n * d.sz) = xs.flatMap enc) := by
  obtain ⟨h0, inner, ⟨hlen, ho⟩, hr⟩ := h
  obtain rfl := (reps_flat enc d.sz F.len (fun x cs => F.M _ _ _ x cs) xs inner).1 hr
  rcases ho with ⟨hv, hn⟩|⟨g, cap, cur, hv, hb, hc, hn, hm, hs, ht⟩
  · obtain ⟨rfl, rfl, rfl⟩ := Value.slice.inj hv
    exact ⟨hn.symm, .inl ⟨rfl, rfl, rfl⟩⟩
  · obtain ⟨rfl, rfl, rfl⟩ := Value.slice.inj hv
    exact ⟨rfl, .inr ⟨g, cur, rfl, h0 g rfl, hb, hc, hn, hm, hs, ht⟩⟩
theorem flat_row {α : Type} {d : Kd α} {enc : α → List Value} (F : Flat d enc) {e base : Nat} {ok : Nat → Prop} {w : World} {g n c : Nat} {cur : Array Value} {xs : List α} (hk : ok g) (hb : base ≤ g)
    (hc : w.heap[g]? = some (.cells cur e (0, 0))) (hn : n = xs.length) (hnc : n ≤ c) (hm : c ≤ maxLen) (hs : cur.size = c * d.sz) (ht : cur.toList.take (n * d.sz) = xs.flatMap enc) :
    d.R e w base ok (.slice (some ⟨g, 0, none⟩) n c) xs := by
  subst hn
  refine ⟨fun k hk' => ?_, xs.flatMap enc, ⟨flat_length enc d.sz F.len xs, .inr ⟨g, c, cur, rfl, hb, hc, hnc, hm, hs, ht⟩⟩, (reps_flat enc d.sz F.len (fun x cs => F.M _ _ _ x cs) xs _).2 rfl⟩
  simp [Value.ownBlock] at hk'; rw [← hk']; exact hk
/-- A row that is read: its cells. -/
theorem read_flat {α : Type} {d : Kd α} {enc : α → List Value} (F : Flat d enc) {w : World} {A : Option Addr} {n : Nat} {xs : List α} (h : d.C w A n xs) (hp : 0 < n) :
    ∃ ad, A = some ad ∧ ∀ j v, (xs.flatMap enc)[j]? = some v → w.cell? (ad.add j) = some v := by
  obtain ⟨h1, _, h2⟩ := h
  obtain ⟨ad, e, hc⟩ := h2 hp
  refine ⟨ad, e, fun j v hj => ?_⟩
  have hjl : j < xs.length * d.sz := by
    have := (List.getElem?_eq_some_iff.1 hj).1
    rwa [flat_length enc d.sz F.len] at this
  have hs : 0 < d.sz := by
    rcases Nat.eq_zero_or_pos d.sz with h|h
    · rw [h, Nat.mul_zero] at hjl; omega
    · exact h
  have hq : j / d.sz < xs.length := Nat.div_lt_of_lt_mul (by rwa [Nat.mul_comm] at hjl)
  obtain ⟨c, hc1, hc2, hc3⟩ := hc (j / d.sz) xs[j / d.sz] (List.getElem?_eq_getElem hq)
  obtain rfl := (F.K _ _ _).1 hc2
  have ht := take_drop_flat enc d.sz F.len xs (j / d.sz) _ (List.getElem?_eq_getElem hq)
  have hm := Nat.mod_lt j hs
  have hdm := Nat.div_add_mod' j d.sz
  have := hc3 (j % d.sz) v (by
    rw [← ht, List.getElem?_take, if_pos hm, List.getElem?_drop, hdm]
    exact hj)
  rwa [hdm] at this
theorem read_flat' {α : Type} {d : Kd α} {enc : α → List Value} (F : Flat d enc) {w : World} {ad : Addr} {n : Nat} {xs : List α} (h : d.C w (some ad) n xs) (hp : 0 < n) (j : Nat) (v : Value) (hj : (xs.flatMap enc)[j]? = some v) : w.cell? (ad.add j) = some v := by
  obtain ⟨ad', e, hc⟩ := read_flat F h hp
  obtain rfl := Option.some.inj e
  exact hc j v hj
/-- Cells of a block, told as a list. -/
theorem blk_list {w : World} {g e : Nat} {cur : Array Value} (hc : w.heap[g]? = some (.cells cur e (0, 0))) {cs : List Value} {m : Nat} (ht : cur.toList.take m = cs) (j : Nat) (v : Value) (hj : cs[j]? = some v) : w.cell? ⟨g, j, none⟩ = some v := by
  rw [zO hc j]
  subst ht
  rw [List.getElem?_take] at hj
  split at hj
  · rw [← Array.getElem?_toList]; exact hj
  · cases hj
/-- An element is stored over. -/
theorem flat_set {α : Type} (enc : α → List Value) (sz : Nat) (hl : ∀ x, (enc x).length = sz) : ∀ (xs : List α) (i : Nat) (x : α), i < xs.length → (xs.set i x).flatMap enc = (xs.flatMap enc).take (i * sz) ++ enc x ++ (xs.flatMap enc).drop (i * sz + sz)
 |[], i, x, h => absurd h (Nat.not_lt_zero _)
 |y :: ys, 0, x, h => by
    rw [List.set_cons_zero, List.flatMap_cons, List.flatMap_cons, Nat.zero_mul, List.take_zero, List.nil_append, Nat.zero_add, List.drop_left' (hl y)]
 |y :: ys, i + 1, x, h => by
    have hy := hl y
    rw [List.set_cons_succ, List.flatMap_cons, List.flatMap_cons, flat_set enc sz hl ys i x (by simpa using h), show (i + 1) * sz = (enc y).length + i * sz by rw [Nat.succ_mul, hy]; omega, Nat.add_assoc, List.take_length_add_append, List.drop_length_add_append]
    simp only [List.append_assoc]
end

/-- One cell of one element is stored over. -/
theorem flat_cell {α : Type} (enc : α → List Value) (sz : Nat) (hl : ∀ x, (enc x).length = sz) : ∀ (xs : List α) (i j : Nat) (x x' : α) (v : Value), xs[i]? = some x → j < sz → enc x' = (enc x).set j v → (xs.set i x').flatMap enc = (xs.flatMap enc).set (i * sz + j) v
 |[], i, j, x, x', v, h, _, _ => by simp at h
 |y :: ys, 0, j, x, x', v, h, hj, he => by
    obtain rfl := Option.some.inj h
    rw [List.set_cons_zero, List.flatMap_cons, List.flatMap_cons, Nat.zero_mul, Nat.zero_add, he, List.set_append_left _ _ (by rw [hl]; exact hj)]
 |y :: ys, i + 1, j, x, x', v, h, hj, he => by
    rw [List.set_cons_succ, List.flatMap_cons, List.flatMap_cons, flat_cell enc sz hl ys i j x x' v (by simpa using h) hj he, List.set_append_right _ _ (by rw [hl, Nat.succ_mul]; omega)]
    congr 2
    rw [hl, Nat.succ_mul]; omega
theorem flat_put {α : Type} {d : Kd α} {enc : α → List Value} (F : Flat d enc) {e base : Nat} {ok : Nat → Prop} {w : World} {g n c : Nat} {xs : List α} (h : d.R e w base ok (.slice (some ⟨g, 0, none⟩) n c) xs)
    {i j : Nat} {x x' : α} {v : Value} (hi : xs[i]? = some x) (hj : j < d.sz) (he : enc x' = (enc x).set j v) : d.R e (w.setCell ⟨g, i * d.sz + j, none⟩ v) base ok (.slice (some ⟨g, 0, none⟩) n c) (xs.set i x') := by
  obtain ⟨hn, ho⟩ := row_flat F h
  subst hn
  rcases ho with ⟨hA, _⟩|⟨g', cur, hA, hk, hb, hc, hn, hm, hs, ht⟩
  · cases hA
  · obtain rfl : g = g' := by injection hA with hA; injection hA
    refine flat_row F hk hb (blk_set hc (i * d.sz + j) v) (by simp) hn hm (by simp [hs]) ?_
    rw [Array.toList_setIfInBounds, flat_cell enc d.sz F.len xs i j x x' v hi hj he, ← ht, List.take_set]
section
/-! ### Memory in parts, none of which lies in another -/
structure Part where
  foot : Nat → Prop
  holds : World → Nat → Prop
  keep : ∀ {w w' : World} {b : Nat}, (∀ k, foot k → w'.heap[k]? = w.heap[k]?) → holds w b → holds w' b
  bound : ∀ {w : World} {b : Nat}, holds w b → ∀ k, foot k → b ≤ k ∧ k < w.heap.size
  lower : ∀ {w : World} {b b' : Nat}, b' ≤ b → holds w b → holds w b'
/-- A row whose elements hold no rows of their own. -/
def Part.row {α : Type} (d : Kd α) (e : Nat) (v : Value) (xs : List α) : Part where
  foot k := v.ownBlock = some k
  holds w b := d.R e w b (fun k => some k = v.ownBlock) v xs
  keep hm h := Kd.R_move h (fun k hk => hm k hk.symm)
  bound h k hk := ⟨Kd.R_base h k hk, Kd.R_lt h k hk⟩
  lower hb h := Kd.R_lower h hb
/-- A block of cells. -/
def Part.blk (g t : Nat) (cs : Array Value) : Part where
  foot k := k = g
  holds w b := b ≤ g ∧ w.heap[g]? = some (.cells cs t (0, 0))
  keep hm h := ⟨h.1, (hm _ rfl).trans h.2⟩
  bound h k hk := by subst hk; exact ⟨h.1, blk_lt h.2⟩
  lower hb h := ⟨Nat.le_trans hb h.1, h.2⟩
theorem Part.of_R {α : Type} {d : Kd α} {e b : Nat} {ok : Nat → Prop} {w : World} {v : Value} {xs : List α} (hE : d.E = []) (h : d.R e w b ok v xs) : (Part.row d e v xs).holds w b := by
  obtain ⟨h0, inner, ho, hr⟩ := Kd.R_bound h
  refine ⟨fun k hk => hk.symm, inner, ho, hr.imp_ (fun _ _ hp => d.M_mono (fun k hk => ?_) (d.M_bound hp))⟩
  obtain ⟨_, _, _, q, hq, _⟩ := hk
  rw [hE] at hq
  exact absurd hq (by simp)
/-- The memory made since w0: parts apart from each other. -/
structure St (w0 w : World) (ps : List Part) : Prop where
  below : Below w0.heap.size w0 w
  all : ∀ p ∈ ps, p.holds w w0.heap.size
  apart : ps.Pairwise (fun p q => ∀ k, p.foot k → ¬ q.foot k)
theorem St.start (w : World) : St w w [] := ⟨Below.refl _ _, by simp, List.Pairwise.nil⟩
section
variable {w0 w w' : World} {ps : List Part}
theorem St.move (h : St w0 w ps) (hb : Below w0.heap.size w0 w') (hm : ∀ p ∈ ps, ∀ k, p.foot k → w'.heap[k]? = w.heap[k]?) : St w0 w' ps := ⟨hb, fun p hp => p.keep (hm p hp) (h.all p hp), h.apart⟩
theorem St.step (h : St w0 w ps) (hb : Below w.heap.size w w') : St w0 w' ps := h.move (zN h.below hb) (fun p hp k hk => hb.block k (p.bound (h.all p hp) k hk).2)
theorem St.drew (h : St w0 w ps) : St w0 w.drew ps := h.step (zH (Below.refl _ _))
theorem St.drewN (h : St w0 w ps) (n : Nat) : St w0 (w.drewN n) ps := h.step (zG (Below.refl _ _) n)
theorem St.tail {p : Part} (h : St w0 w (p :: ps)) : St w0 w ps := ⟨h.below, fun q hq => h.all q (List.mem_cons_of_mem _ hq), (List.pairwise_cons.1 h.apart).2⟩
theorem St.head {p : Part} (h : St w0 w (p :: ps)) : p.holds w w0.heap.size := h.all p (by simp)
theorem St.away {p : Part} (h : St w0 w (p :: ps)) : ∀ q ∈ ps, ∀ k, p.foot k → ¬ q.foot k := (List.pairwise_cons.1 h.apart).1
/-- A new part. -/
theorem St.new {p : Part} (h : St w0 w ps) (hb : Below w.heap.size w w') (hp : p.holds w' w.heap.size) : St w0 w' (p :: ps) := by
  have h' := h.step hb
  refine ⟨h'.below, fun q hq => ?_, List.pairwise_cons.2 ⟨fun q hq k hk hq' => ?_, h'.apart⟩⟩
  · rcases List.mem_cons.1 hq with rfl|hq
    · exact q.lower h.below.size hp
    · exact h'.all q hq
  · have h1 := (p.bound hp k hk).1
    have h2 := (q.bound (h.all q hq) k hq').2
    omega
theorem St.new_row {α : Type} {d : Kd α} {e : Nat} {ok : Nat → Prop} {v : Value} {xs : List α} (hE : d.E = []) (h : St w0 w ps) (hb : Below w.heap.size w w') (hr : d.R e w' w.heap.size ok v xs) : St w0 w' (Part.row d e v xs :: ps) := h.new hb (Part.of_R hE hr)
theorem St.new_blk {g t : Nat} {cs : Array Value} (h : St w0 w ps) (hb : Below w.heap.size w w') (hg : w.heap.size ≤ g) (hc : w'.heap[g]? = some (.cells cs t (0, 0))) : St w0 w' (Part.blk g t cs :: ps) := h.new (p := Part.blk g t cs) hb ⟨hg, hc⟩
/-- A row that is nowhere. -/
theorem St.nil_row {α : Type} (d : Kd α) (e : Nat) (h : St w0 w ps) : St w0 w (Part.row d e (.slice none 0 0) [] :: ps) :=
  ⟨h.below, fun q hq => (List.mem_cons.1 hq).elim (fun e' => e' ▸ Kd.R_nil d e w _ _) (h.all q), List.pairwise_cons.2 ⟨fun q _ k hk => by simp [Part.row, Value.ownBlock] at hk, h.apart⟩⟩
theorem St.perm {qs : List Part} (h : St w0 w ps) (hp : qs.Perm ps) : St w0 w qs := ⟨h.below, fun p hq => h.all p (hp.mem_iff.1 hq), (hp.pairwise_iff (fun hab k hk hk' => hab k hk' hk)).2 h.apart⟩
theorem St.swap {p q : Part} (h : St w0 w (p :: q :: ps)) : St w0 w (q :: p :: ps) := h.perm (List.Perm.swap _ _ _)
theorem St.sub {qs : List Part} (h : St w0 w ps) (hs : qs.Sublist ps) : St w0 w qs := ⟨h.below, fun p hp => h.all p (hs.subset hp), h.apart.sublist hs⟩
theorem perm_at {α : Type _} : ∀ (l : List α) (i : Nat) (h : i < l.length), (l[i] :: l.eraseIdx i).Perm l
 |a :: l, 0, _ => List.Perm.refl _
 |a :: l, i + 1, h => (List.Perm.swap _ _ _).trans ((perm_at l i (by simpa using h)).cons a)
/-- One part comes to the front. -/
theorem St.front {p : Part} {qs : List Part} (i : Nat) (h : St w0 w ps) (e : ps[i]? = some p) (e' : ps.eraseIdx i = qs) : St w0 w (p :: qs) := by
  subst e'
  refine h.perm ?_
  obtain ⟨hi, rfl⟩ := List.getElem?_eq_some_iff.1 e
  exact (perm_at _ _ hi)
theorem St.back {p : Part} {qs : List Part} (i : Nat) (h : St w0 w (p :: ps)) (e : qs[i]? = some p) (e' : qs.eraseIdx i = ps) : St w0 w qs := by
  subst e'
  refine h.perm ?_
  obtain ⟨hi, rfl⟩ := List.getElem?_eq_some_iff.1 e
  exact (perm_at _ _ hi).symm
/-- A block's cells. -/
theorem St.cell {g t : Nat} {cs : Array Value} (h : St w0 w (Part.blk g t cs :: ps)) (j : Nat) {v : Value} (e : cs[j]? = some v) : w.cell? ⟨g, j, none⟩ = some v := (zO h.head.2 j).trans e
theorem St.frozen {g t : Nat} {cs : Array Value} (h : St w0 w (Part.blk g t cs :: ps)) (j : Nat) : w.frozen? ⟨g, j, none⟩ = false := zP h.head.2 j
theorem St.put {g t : Nat} {cs cs' : Array Value} (h : St w0 w (Part.blk g t cs :: ps)) (j : Nat) (u : Value) (e : cs.setIfInBounds j u = cs') : St w0 (w.setCell ⟨g, j, none⟩ u) (Part.blk g t cs' :: ps) := by
  subst e
  have hb := zJ (j := j) (v := u) h.below h.head.1
  refine ⟨hb, fun q hq => ?_, List.pairwise_cons.2 ⟨h.away, h.tail.apart⟩⟩
  rcases List.mem_cons.1 hq with rfl|hq
  · exact ⟨h.head.1, blk_set h.head.2 j u⟩
  · refine q.keep (fun k hk => Below.heap_setCell w ⟨g, j, none⟩ u k (fun ek => ?_)) (h.tail.all q hq)
    exact h.away q hq k ek hk
theorem St.at_cell {g t : Nat} {cs : Array Value} {v : Value} (h : St w0 w ps) (i : Nat) (e : ps[i]? = some (Part.blk g t cs)) (j : Nat) (e2 : cs[j]? = some v) : w.cell? ⟨g, j, none⟩ = some v := (zO (h.all _ (List.mem_of_getElem? e)).2 j).trans e2
theorem St.at_frozen {g t : Nat} {cs : Array Value} (h : St w0 w ps) (i : Nat) (e : ps[i]? = some (Part.blk g t cs)) (j : Nat) : w.frozen? ⟨g, j, none⟩ = false := zP (h.all _ (List.mem_of_getElem? e)).2 j
theorem St.at_apart {p q : Part} (h : St w0 w ps) (i j : Nat) (e : ps[i]? = some p) (e2 : ps[j]? = some q) (hij : i ≠ j) : ∀ k, p.foot k → ¬ q.foot k := by
  obtain ⟨hi, rfl⟩ := List.getElem?_eq_some_iff.1 e
  obtain ⟨hj, rfl⟩ := List.getElem?_eq_some_iff.1 e2
  have hp := List.pairwise_iff_getElem.1 h.apart
  rcases Nat.lt_or_ge i j with hl|hl
  · exact hp i j hi hj hl
  · exact fun k h1 h2 => hp j i hj hi (by omega) k h2 h1
theorem St.at_ne {g t g' t' : Nat} {cs cs' : Array Value} (h : St w0 w ps) (i j : Nat) (e : ps[i]? = some (Part.blk g t cs)) (e2 : ps[j]? = some (Part.blk g' t' cs')) (hij : i ≠ j) : g ≠ g' := fun eg => h.at_apart i j e e2 hij g rfl eg
theorem St.at_own {α : Type} {d : Kd α} {e0 : Nat} {v : Value} {xs : List α} {g t : Nat} {cs : Array Value} (h : St w0 w ps) (i j : Nat) (e : ps[i]? = some (Part.blk g t cs)) (e2 : ps[j]? = some (Part.row d e0 v xs)) (hij : i ≠ j) : v.ownBlock ≠ some g := fun eg => h.at_apart i j e e2 hij g rfl eg
theorem St.at_C {α : Type} {d : Kd α} {e0 n c : Nat} {A : Option Addr} {xs : List α} (h : St w0 w ps) (i : Nat) (e : ps[i]? = some (Part.row d e0 (.slice A n c) xs)) : n = xs.length ∧ n ≤ c ∧ d.C w A xs.length xs := Kd.R_reads' (h.all _ (List.mem_of_getElem? e))
theorem St.at_R {α : Type} {d : Kd α} {e0 : Nat} {v : Value} {xs : List α} (h : St w0 w ps) (i : Nat) (e : ps[i]? = some (Part.row d e0 v xs)) : d.R e0 w w0.heap.size (fun k => some k = v.ownBlock) v xs := h.all _ (List.mem_of_getElem? e)
theorem St.at_lt {g t : Nat} {cs : Array Value} (h : St w0 w ps) (i : Nat) (e : ps[i]? = some (Part.blk g t cs)) : g < w.heap.size := blk_lt (h.all _ (List.mem_of_getElem? e)).2
/-- A new block of cells. -/
theorem St.alloc (h : St w0 w ps) (cs : Array Value) (t : Nat) : St w0 (w.alloc (.cells cs t (0, 0))) (Part.blk w.heap.size t cs :: ps) := h.new_blk (zI (Below.refl _ _) _) (Nat.le_refl _) (blk_new w _)
/-- A row is read. -/
theorem St.reads {α : Type} {d : Kd α} {e : Nat} {v : Value} {xs : List α} (h : St w0 w (Part.row d e v xs :: ps)) : ∃ A c, v = .slice A xs.length c ∧ xs.length ≤ c ∧ d.C w A xs.length xs := Kd.R_reads h.head
theorem St.C {α : Type} {d : Kd α} {e n c : Nat} {A : Option Addr} {xs : List α} (h : St w0 w (Part.row d e (.slice A n c) xs :: ps)) : n = xs.length ∧ n ≤ c ∧ d.C w A xs.length xs := Kd.R_reads' h.head
/-- A row is written over (its block alone). -/
theorem St.over {α : Type} {d : Kd α} {e : Nat} {ok : Nat → Prop} {v : Value} {xs ys : List α} (hE : d.E = []) (h : St w0 w (Part.row d e v xs :: ps)) (hg : w.grownBy w' v.ownBlock) (hr : d.R e w' w0.heap.size ok v ys) : St w0 w' (Part.row d e v ys :: ps) := by
  refine ⟨h.below.grown hg h.below.size (fun k hk => Kd.R_base h.head k hk), fun q hq => ?_, List.pairwise_cons.2 ⟨h.away, h.tail.apart⟩⟩
  rcases List.mem_cons.1 hq with rfl|hq
  · exact Part.of_R hE hr
  · refine q.keep (fun k hk => hg.block k (q.bound (h.tail.all q hq) k hk).2 (fun ek => ?_)) (h.tail.all q hq)
    exact h.away q hq k ek.symm hk
/-- What a method does that writes a block and one row that hangs on it. -/
theorem St.via {α : Type} {d : Kd α} {e g t : Nat} {cs cs' : Array Value} {ok : Nat → Prop} {u u' : Value} {xs ys : List α} (hE : d.E = []) (h : St w0 w (Part.blk g t cs :: Part.row d e u xs :: ps))
    (hb : Below w0.heap.size w0 w') (hc : w'.heap[g]? = some (.cells cs' t (0, 0))) (hr : d.R e w' w0.heap.size ok u' ys) (hk : Kept w w' (fun k => some k = u.ownBlock ∨ k = g)) (hok : ∀ k, ok k → k ≠ g ∧ ∀ q ∈ ps, ¬ q.foot k) :
    St w0 w' (Part.blk g t cs' :: Part.row d e u' ys :: ps) := by
  have hown : ∀ k, u'.ownBlock = some k → k ≠ g ∧ ∀ q ∈ ps, ¬ q.foot k := fun k hk' => hok k (hr.1 k hk')
  refine ⟨hb, fun q hq => ?_, List.pairwise_cons.2 ⟨fun q hq k hk' hq' => ?_, List.pairwise_cons.2 ⟨fun q hq k hk' => (hown k hk').2 q hq, h.tail.tail.apart⟩⟩⟩
  · rcases List.mem_cons.1 hq with rfl|hq
    · exact ⟨h.head.1, hc⟩
    · rcases List.mem_cons.1 hq with rfl|hq
      · exact Part.of_R hE hr
      · refine q.keep (fun k hk' => hk.2 k (q.bound (h.tail.tail.all q hq) k hk').2 (fun hs => ?_)) (h.tail.tail.all q hq)
        rcases hs with hs|hs
        · exact h.tail.away q hq k hs.symm hk'
        · exact h.away q (List.mem_cons_of_mem _ hq) k hs hk'
  · rcases List.mem_cons.1 hq with hq|hq
    · subst hq; exact (hown k hq').1 hk'
    · exact h.away q (List.mem_cons_of_mem _ hq) k hk' hq'
/-- The places that a row may take, beside a block and other parts. -/
def Free (g : Nat) (ps : List Part) (k : Nat) : Prop := k ≠ g ∧ ∀ q ∈ ps, ¬ q.foot k
theorem St.row_free {α : Type} {d : Kd α} {e g t : Nat} {cs : Array Value} {u : Value} {xs : List α} (h : St w0 w (Part.blk g t cs :: Part.row d e u xs :: ps)) : d.R e w w0.heap.size (Free g ps) u xs :=
  zR h.tail.head (fun k hk => ⟨fun e' => h.away (Part.row d e u xs) (by simp) k e' hk.symm, fun q hq => h.tail.away q hq k hk.symm⟩)
theorem St.fresh {g t : Nat} {cs : Array Value} {p : Part} (h : St w0 w (Part.blk g t cs :: p :: ps)) : ∀ n, w.heap.size ≤ n → Free g ps n := fun n hn => ⟨fun e => by have := blk_lt h.head.2; omega, fun q hq hk => by have := (q.bound (h.tail.tail.all q hq) n hk).2; omega⟩
end
end

def enc81 (x : S81) : List Value := [.int .i64 x.f0, .bool x.f1, .string x.f2, .string x.f3, .int .i64 x.f4]
theorem F81 : Flat k81 enc81 where
  E := rfl
  K := fun w x cs => ⟨fun h => k81_open h, fun h => h ▸ k81_mk w x⟩
  M := fun w base ok x cs => ⟨fun h => k81_openM h, fun h => h ▸ k81_mkM w base ok x⟩
  len := fun _ => rfl
  one := fun x v h => by
    simp only [enc81, List.mem_cons, List.not_mem_nil, or_false] at h
    rcases h with rfl|rfl|rfl|rfl|rfl <;> rfl

theorem St.put_flat {α : Type} {d : Kd α} {enc : α → List Value} (F : Flat d enc) {w0 w : World} {ps : List Part} {e g n c : Nat} {xs : List α} (h : St w0 w (Part.row d e (.slice (some ⟨g, 0, none⟩) n c) xs :: ps)) {i j : Nat} {x x' : α} {v : Value} (hi : xs[i]? = some x) (hj : j < d.sz) (he : enc x' = (enc x).set j v) :
    St w0 (w.setCell ⟨g, i * d.sz + j, none⟩ v) (Part.row d e (.slice (some ⟨g, 0, none⟩) n c) (xs.set i x') :: ps) := by
  refine St.over F.E h ?_ (flat_put F h.head hi hj he)
  exact ⟨by simp [World.setCell], by simp [World.setCell], by simp [World.setCell], by simp [World.setCell], fun k hk hne => Below.heap_setCell w ⟨g, i * d.sz + j, none⟩ v k (fun e => hne (by rw [e]; rfl))⟩
theorem flat_at {α : Type} (enc : α → List Value) (sz : Nat) (hl : ∀ x, (enc x).length = sz) (xs : List α) (i j : Nat) (x : α) (v : Value) (hi : xs[i]? = some x) (hv : (enc x)[j]? = some v) : (xs.flatMap enc)[i * sz + j]? = some v := by
  have h := take_drop_flat enc sz hl xs i x hi
  have hj : j < sz := by rw [← hl x]; exact (List.getElem?_eq_some_iff.1 hv).1
  rw [← h, List.getElem?_take, if_pos hj, List.getElem?_drop] at hv
  exact hv
theorem St.flat_cell {α : Type} {d : Kd α} {enc : α → List Value} (F : Flat d enc) {w0 w : World} {ps : List Part} {e g n c : Nat} {xs : List α} (h : St w0 w (Part.row d e (.slice (some ⟨g, 0, none⟩) n c) xs :: ps)) {i j : Nat} {x : α} {v : Value} (hi : xs[i]? = some x) (hv : (enc x)[j]? = some v) :
    w.cell? ⟨g, i * d.sz + j, none⟩ = some v ∧ w.frozen? ⟨g, i * d.sz + j, none⟩ = false := by
  obtain ⟨hn, ho⟩ := row_flat F h.head
  subst hn
  rcases ho with ⟨hA, _⟩|⟨g', cur, hA, _, _, hc, _, _, _, ht⟩
  · cases hA
  · obtain rfl : g = g' := by injection hA with hA; injection hA
    refine ⟨?_, zP hc _⟩
    rw [zO hc]
    have := flat_at enc d.sz F.len xs i j x v hi hv
    rw [← ht, List.getElem?_take] at this
    split at this
    · rw [← Array.getElem?_toList]; exact this
    · cases this
theorem St.slot5 {w0 w : World} {ps : List Part} {gs n c : Nat} {l : List S81} (h : St w0 w (Part.row k81 81 (.slice (some ⟨gs, 0, none⟩) n c) l :: ps)) {i : Nat} {x : S81} (hx : l[i]? = some x) (y : S81) :
    St w0 (((((w.setCell ⟨gs, i * 5, none⟩ (.int .i64 y.f0)).setCell ⟨gs, i * 5 + 1, none⟩ (.bool y.f1)).setCell ⟨gs, i * 5 + 2, none⟩ (.string y.f2)).setCell ⟨gs, i * 5 + 3, none⟩ (.string y.f3)).setCell ⟨gs, i * 5 + 4, none⟩ (.int .i64 y.f4)) (Part.row k81 81 (.slice (some ⟨gs, 0, none⟩) n c) (l.set i y) :: ps) := by
  have hi : i < l.length := (List.getElem?_eq_some_iff.1 hx).1
  have S1 := h.put_flat F81 (j := 0) (x' := ⟨y.f0, x.f1, x.f2, x.f3, x.f4⟩) (v := .int .i64 y.f0) hx (by decide) rfl
  have S2 := S1.put_flat F81 (j := 1) (x' := ⟨y.f0, y.f1, x.f2, x.f3, x.f4⟩) (v := .bool y.f1) (List.getElem?_set_self (by first|exact hi|(simp only [List.length_set]; exact hi))) (by decide) rfl
  have S3 := S2.put_flat F81 (j := 2) (x' := ⟨y.f0, y.f1, y.f2, x.f3, x.f4⟩) (v := .string y.f2) (List.getElem?_set_self (by first|exact hi|(simp only [List.length_set]; exact hi))) (by decide) rfl
  have S4 := S3.put_flat F81 (j := 3) (x' := ⟨y.f0, y.f1, y.f2, y.f3, x.f4⟩) (v := .string y.f3) (List.getElem?_set_self (by first|exact hi|(simp only [List.length_set]; exact hi))) (by decide) rfl
  have S5 := S4.put_flat F81 (j := 4) (x' := y) (v := .int .i64 y.f4) (List.getElem?_set_self (by first|exact hi|(simp only [List.length_set]; exact hi))) (by decide) rfl
  simp only [List.set_set] at S5
  exact S5

set_option maxHeartbeats 4000000 in
set_option maxRecDepth 100000 in
theorem lay_calls (g o gs c t : Nat) (cs : Array Value) (l : List S81) (free : Int) (key val : ByteArray) (w0 w : World) (ps : List Part)
    (h : St w0 w (Part.blk g t cs :: Part.row k81 81 (.slice (some ⟨gs, 0, none⟩) l.length c) l :: ps)) (h0 : cs[o]? = some (.slice (some ⟨gs, 0, none⟩) l.length c)) (h1 : cs[o + 1]? = some (.int .i64 free)) (hf0 : 0 ≤ free) (hf1 : free < l.length) :
    Calls Try.prog 94 #[.pointer (some ⟨g, o, none⟩), .string key, .string val] w fun e w' => e = .returned (.int .i64 (wrap64 (wrap64 (24 * (rd_T81 l free).f0) + free))) ∧
      St w0 w' (Part.blk g t (cs.setIfInBounds (o + 1) (.int .i64 (rd_T81 l free).f4)) :: Part.row k81 81 (.slice (some ⟨gs, 0, none⟩) l.length c) (l.set free.toNat ⟨(rd_T81 l free).f0, true, key, val, 0⟩) :: ps) := by
  have HS := Aside0.mk h
  have hc0 := h.cell o h0
  have hc1 := h.cell (o + 1) h1
  have hz1 := h.frozen (o + 1)
  have hx : l[free.toNat]? = some (rd_T81 l free) := by unfold rd_T81; rw [List.getD_eq_getElem?_getD, List.getElem?_eq_getElem (by omega)]; rfl
  obtain ⟨hs0, hy0⟩ := h.tail.flat_cell F81 (j := 0) hx rfl
  obtain ⟨hs1, hy1⟩ := h.tail.flat_cell F81 (j := 1) hx rfl
  obtain ⟨hs2, hy2⟩ := h.tail.flat_cell F81 (j := 2) hx rfl
  obtain ⟨hs3, hy3⟩ := h.tail.flat_cell F81 (j := 3) hx rfl
  obtain ⟨hs4, hy4⟩ := h.tail.flat_cell F81 (j := 4) hx rfl
  replace hs0 : w.cell? ⟨gs, free.toNat * 5, none⟩ = _ := hs0
  replace hy0 : w.frozen? ⟨gs, free.toNat * 5, none⟩ = _ := hy0
  replace hs1 : w.cell? ⟨gs, free.toNat * 5 + 1, none⟩ = _ := hs1
  replace hy1 : w.frozen? ⟨gs, free.toNat * 5 + 1, none⟩ = _ := hy1
  replace hs2 : w.cell? ⟨gs, free.toNat * 5 + 2, none⟩ = _ := hs2
  replace hy2 : w.frozen? ⟨gs, free.toNat * 5 + 2, none⟩ = _ := hy2
  replace hs3 : w.cell? ⟨gs, free.toNat * 5 + 3, none⟩ = _ := hs3
  replace hy3 : w.frozen? ⟨gs, free.toNat * 5 + 3, none⟩ = _ := hy3
  replace hs4 : w.cell? ⟨gs, free.toNat * 5 + 4, none⟩ = _ := hs4
  replace hy4 : w.frozen? ⟨gs, free.toNat * 5 + 4, none⟩ = _ := hy4
  have hne : gs ≠ g := fun e => h.away (Part.row k81 81 (.slice (some ⟨gs, 0, none⟩) l.length c) l) (by simp) gs e rfl
  have hne' : g ≠ gs := fun e => hne e.symm
  have hflag : True := trivial
  clear h
  go_enter Try.func94, Try.ntmps94
  go_wp2_with (first|((with_reducible refine gate_dst (N := 21) rfl ?_); clear hflag; generalize hb_ : free.toNat * 5 = b at *)|fail)
  subst hb_
  have S1 := (HS.out.put (o + 1) (.int .i64 (rd_T81 l free).f4) rfl).swap
  have S2 := S1.put_flat F81 (j := 1) (x' := ⟨(rd_T81 l free).f0, true, (rd_T81 l free).f2, (rd_T81 l free).f3, (rd_T81 l free).f4⟩) (v := .bool true) hx (by decide) rfl
  have e2 : ∀ x y : S81, l[free.toNat]? = some x → (l.set free.toNat y)[free.toNat]? = some y := fun x y _ => List.getElem?_set_self (by omega)
  have S3 := S2.put_flat F81 (j := 2) (x' := ⟨(rd_T81 l free).f0, true, key, (rd_T81 l free).f3, (rd_T81 l free).f4⟩) (v := .string key) (e2 _ _ hx) (by decide) rfl
  rw [List.set_set] at S3
  have S4 := S3.put_flat F81 (j := 3) (x' := ⟨(rd_T81 l free).f0, true, key, val, (rd_T81 l free).f4⟩) (v := .string val) (e2 _ _ hx) (by decide) rfl
  rw [List.set_set] at S4
  have S5 := S4.put_flat F81 (j := 4) (x' := ⟨(rd_T81 l free).f0, true, key, val, 0⟩) (v := .int .i64 0) (e2 _ _ hx) (by decide) rfl
  rw [List.set_set] at S5
  have hr : impl_Arena_handle.f (l.set free.toNat ⟨(rd_T81 l free).f0, true, key, val, 0⟩) (rd_T81 l free).f4 free = some (wrap64 (wrap64 (24 * (rd_T81 l free).f0) + free)) := by
    unfold impl_Arena_handle.f
    rw [if_pos hf0, if_pos (by rw [List.length_set]; exact hf1)]
    conv => lhs; unfold rd_T81
    rw [List.getD_eq_getElem?_getD, List.getElem?_set_self (by omega)]; rfl
  have hc := S5.C
  rw [List.length_set] at hc
  have HH := impl_Arena_handle.calls (some ⟨gs, 0, none⟩) c _ (rd_T81 l free).f4 free _ _ (by rw [List.length_set]; exact hc.2.2) (by rw [List.length_set]; exact hc.2.1) hr
  rw [List.length_set] at HH
  refine HH.mono ?_
  rintro e w' ⟨rfl, hb⟩
  have S6 := (S5.step hb).swap
  clear HS S1 S2 S3 S4 S5 hs0 hs1 hs2 hs3 hs4 hy0 hy1 hy2 hy3 hy4
  go_wp2
  go_ret
  exact ⟨rfl, S6⟩

/-! ### impl_Lay: function 46 -/
set_option maxHeartbeats 4000000 in
set_option maxRecDepth 100000 in
theorem lay_zero1 (k : Nat) (A : Option Addr) (c : Nat) (l : List S81) (fr : Int) (key val : ByteArray) (w : World) (hr : Kd.C k81 w A l.length l) (hc : l.length ≤ c) (h1 : impl_isKey.f key = some false) :
    Calls Try.prog 46 #[.agg #[.slice A l.length c, .int .i64 fr], .string key, .string val] w fun e w' => ∃ v0_ : Value, e = .returned (.tuple #[.agg #[v0_, .int .i64 0], .int .i64 0, .bool false]) ∧ Kd.R k81 81 w' w.heap.size (fun _ => True) v0_ [] ∧ Below w.heap.size w w' := by
  have hu65 := Try.underlying65
  have HS := Aside0.mk (St.start w)
  go_enter Try.func46, Try.ntmps46
  go_wp2_with fail
  have h65 : w.heap.size + 1 = (w.alloc (Obj.cells #[Value.slice A l.length c, Value.int IntKind.i64 fr] 65)).heap.size := by show _ = (w.heap.push _).size; rw [Array.size_push]
  have S := (HS.out.alloc #[Value.slice A l.length c, Value.int IntKind.i64 fr] 65).alloc #[Value.slice none 0 0, Value.int IntKind.i64 0] 65
  rw [← h65] at S
  clear h65 HS
  refine (impl_isKey.calls key false _ h1).mono ?_
  rintro e w1 ⟨rfl, hb⟩
  have S := S.step hb.below
  clear hb
  have HS := Aside0.mk S
  have hc0 := S.at_cell 1 rfl 0 rfl
  have hc1 := S.at_cell 1 rfl 1 rfl
  have hd0 := S.at_cell 0 rfl 0 rfl
  have hd1 := S.at_cell 0 rfl 1 rfl
  have hz0 := S.at_frozen 0 rfl 0
  have hz1 := S.at_frozen 0 rfl 1
  clear S
  go_wp2_with fail
  have S := (HS.out.put 0 (.slice none 0 0) rfl).put 1 (.int .i64 0) rfl
  clear HS hc0 hc1 hd0 hd1 hz0 hz1
  refine bodyPost_ret (results_ctt rfl _ _ _ 65 #[.slice none 0 0, .int .i64 0] (0, 0) _ rfl S.head.2 Try.underlying65 rfl (by kernel_rfl)) rfl ?_
  exact ⟨_, rfl, Kd.R_nil _ _ _ _ _, S.below⟩
set_option maxHeartbeats 4000000 in
set_option maxRecDepth 100000 in
theorem lay_zero2 (k : Nat) (A : Option Addr) (c : Nat) (l : List S81) (fr : Int) (key val : ByteArray) (w : World) (hr : Kd.C k81 w A l.length l) (hc : l.length ≤ c) (h1 : impl_isKey.f key = some true) (h2 : (val.size : Int) > 20) :
    Calls Try.prog 46 #[.agg #[.slice A l.length c, .int .i64 fr], .string key, .string val] w fun e w' => ∃ v0_ : Value, e = .returned (.tuple #[.agg #[v0_, .int .i64 0], .int .i64 0, .bool false]) ∧ Kd.R k81 81 w' w.heap.size (fun _ => True) v0_ [] ∧ Below w.heap.size w w' := by
  have hu65 := Try.underlying65
  have HS := Aside0.mk (St.start w)
  have h2b : decide ((20 : Int) < (val.size : Int)) = true := decide_eq_true h2
  go_enter Try.func46, Try.ntmps46
  go_wp2_with fail
  have h65 : w.heap.size + 1 = (w.alloc (Obj.cells #[Value.slice A l.length c, Value.int IntKind.i64 fr] 65)).heap.size := by show _ = (w.heap.push _).size; rw [Array.size_push]
  have S := (HS.out.alloc #[Value.slice A l.length c, Value.int IntKind.i64 fr] 65).alloc #[Value.slice none 0 0, Value.int IntKind.i64 0] 65
  rw [← h65] at S
  clear h65 HS
  refine (impl_isKey.calls key true _ h1).mono ?_
  rintro e w1 ⟨rfl, hb⟩
  have S := S.step hb.below
  clear hb
  have HS := Aside0.mk S
  have hc0 := S.at_cell 1 rfl 0 rfl
  have hc1 := S.at_cell 1 rfl 1 rfl
  have hd0 := S.at_cell 0 rfl 0 rfl
  have hd1 := S.at_cell 0 rfl 1 rfl
  have hz0 := S.at_frozen 0 rfl 0
  have hz1 := S.at_frozen 0 rfl 1
  clear S
  go_wp2_with fail
  have S := (HS.out.put 0 (.slice none 0 0) rfl).put 1 (.int .i64 0) rfl
  clear HS hc0 hc1 hd0 hd1 hz0 hz1
  refine bodyPost_ret (results_ctt rfl _ _ _ 65 #[.slice none 0 0, .int .i64 0] (0, 0) _ rfl S.head.2 Try.underlying65 rfl (by kernel_rfl)) rfl ?_
  exact ⟨_, rfl, Kd.R_nil _ _ _ _ _, S.below⟩
set_option maxHeartbeats 4000000 in
set_option maxRecDepth 100000 in
theorem lay_zero3 (k : Nat) (A : Option Addr) (c : Nat) (l : List S81) (fr : Int) (key val : ByteArray) (w : World) (hr : Kd.C k81 w A l.length l) (hc : l.length ≤ c) (h1 : impl_isKey.f key = some true) (h2 : ¬ (val.size : Int) > 20) (h3 : impl_ArenaOk.f k l fr = some false) :
    Calls Try.prog 46 #[.agg #[.slice A l.length c, .int .i64 fr], .string key, .string val] w fun e w' => ∃ v0_ : Value, e = .returned (.tuple #[.agg #[v0_, .int .i64 0], .int .i64 0, .bool false]) ∧ Kd.R k81 81 w' w.heap.size (fun _ => True) v0_ [] ∧ Below w.heap.size w w' := by
  have hu65 := Try.underlying65
  have HS := Aside0.mk (St.start w)
  have h2b : decide ((20 : Int) < (val.size : Int)) = false := decide_eq_false h2
  go_enter Try.func46, Try.ntmps46
  go_wp2_with fail
  have h65 : w.heap.size + 1 = (w.alloc (Obj.cells #[Value.slice A l.length c, Value.int IntKind.i64 fr] 65)).heap.size := by show _ = (w.heap.push _).size; rw [Array.size_push]
  have S := (HS.out.alloc #[Value.slice A l.length c, Value.int IntKind.i64 fr] 65).alloc #[Value.slice none 0 0, Value.int IntKind.i64 0] 65
  rw [← h65] at S
  clear h65 HS
  refine (impl_isKey.calls key true _ h1).mono ?_
  rintro e w1 ⟨rfl, hb⟩
  have S := S.step hb.below
  clear hb
  have HS := Aside0.mk S
  have hc0 := S.at_cell 1 rfl 0 rfl
  have hc1 := S.at_cell 1 rfl 1 rfl
  clear S
  go_wp2_with fail
  refine (impl_ArenaOk.calls k A c l fr false _ (Kd.C_below hr HS.out.below) hc h3).mono ?_
  rintro e w2 ⟨rfl, hb⟩
  have S := HS.out.step hb
  clear hb
  clear HS
  have HS := Aside0.mk S
  clear hc0 hc1
  have hc0 := S.at_cell 1 rfl 0 rfl
  have hc1 := S.at_cell 1 rfl 1 rfl
  have hd0 := S.at_cell 0 rfl 0 rfl
  have hd1 := S.at_cell 0 rfl 1 rfl
  have hz0 := S.at_frozen 0 rfl 0
  have hz1 := S.at_frozen 0 rfl 1
  clear S
  go_wp2_with fail
  have S := (HS.out.put 0 (.slice none 0 0) rfl).put 1 (.int .i64 0) rfl
  clear HS hc0 hc1 hd0 hd1 hz0 hz1
  refine bodyPost_ret (results_ctt rfl _ _ _ 65 #[.slice none 0 0, .int .i64 0] (0, 0) _ rfl S.head.2 Try.underlying65 rfl (by kernel_rfl)) rfl ?_
  exact ⟨_, rfl, Kd.R_nil _ _ _ _ _, S.below⟩
set_option maxHeartbeats 4000000 in
set_option maxRecDepth 100000 in
theorem lay_zero4 (k : Nat) (A : Option Addr) (c : Nat) (l : List S81) (fr : Int) (key val : ByteArray) (w : World) (hr : Kd.C k81 w A l.length l) (hc : l.length ≤ c) (h1 : impl_isKey.f key = some true) (h2 : ¬ (val.size : Int) > 20) (h3 : impl_ArenaOk.f k l fr = some true) (h4 : fr = -1) :
    Calls Try.prog 46 #[.agg #[.slice A l.length c, .int .i64 fr], .string key, .string val] w fun e w' => ∃ v0_ : Value, e = .returned (.tuple #[.agg #[v0_, .int .i64 0], .int .i64 0, .bool false]) ∧ Kd.R k81 81 w' w.heap.size (fun _ => True) v0_ [] ∧ Below w.heap.size w w' := by
  have hu65 := Try.underlying65
  have HS := Aside0.mk (St.start w)
  subst h4
  have h2b : decide ((20 : Int) < (val.size : Int)) = false := decide_eq_false h2
  go_enter Try.func46, Try.ntmps46
  go_wp2_with fail
  have h65 : w.heap.size + 1 = (w.alloc (Obj.cells #[Value.slice A l.length c, Value.int IntKind.i64 (-1)] 65)).heap.size := by show _ = (w.heap.push _).size; rw [Array.size_push]
  have S := (HS.out.alloc #[Value.slice A l.length c, Value.int IntKind.i64 (-1)] 65).alloc #[Value.slice none 0 0, Value.int IntKind.i64 0] 65
  rw [← h65] at S
  clear h65 HS
  refine (impl_isKey.calls key true _ h1).mono ?_
  rintro e w1 ⟨rfl, hb⟩
  have S := S.step hb.below
  clear hb
  have HS := Aside0.mk S
  have hc0 := S.at_cell 1 rfl 0 rfl
  have hc1 := S.at_cell 1 rfl 1 rfl
  clear S
  go_wp2_with fail
  refine (impl_ArenaOk.calls k A c l (-1) true _ (Kd.C_below hr HS.out.below) hc h3).mono ?_
  rintro e w2 ⟨rfl, hb⟩
  have S := HS.out.step hb
  clear hb
  clear HS
  have HS := Aside0.mk S
  clear hc0 hc1
  have hc0 := S.at_cell 1 rfl 0 rfl
  have hc1 := S.at_cell 1 rfl 1 rfl
  have hd0 := S.at_cell 0 rfl 0 rfl
  have hd1 := S.at_cell 0 rfl 1 rfl
  have hz0 := S.at_frozen 0 rfl 0
  have hz1 := S.at_frozen 0 rfl 1
  clear S
  go_wp2_with fail
  have S := (HS.out.put 0 (.slice none 0 0) rfl).put 1 (.int .i64 0) rfl
  clear HS hc0 hc1 hd0 hd1 hz0 hz1
  refine bodyPost_ret (results_ctt rfl _ _ _ 65 #[.slice none 0 0, .int .i64 0] (0, 0) _ rfl S.head.2 Try.underlying65 rfl (by kernel_rfl)) rfl ?_
  exact ⟨_, rfl, Kd.R_nil _ _ _ _ _, S.below⟩
set_option maxHeartbeats 4000000 in
set_option maxRecDepth 100000 in
theorem lay_main (k : Nat) (A : Option Addr) (c : Nat) (l : List S81) (fr : Int) (key val : ByteArray) (w : World) (hr : Kd.C k81 w A l.length l) (hc : l.length ≤ c) (h1 : impl_isKey.f key = some true) (h2 : ¬ (val.size : Int) > 20) (h3 : impl_ArenaOk.f k l fr = some true) (h4 : fr ≠ -1) (tl : List S81) (tf : Int) (h5 : impl_copyArena.f l fr = some (tl, tf)) (hf0 : 0 ≤ tf) (hf1 : tf < tl.length) :
    Calls Try.prog 46 #[.agg #[.slice A l.length c, .int .i64 fr], .string key, .string val] w fun e w' => ∃ v0_ : Value, e = .returned (.tuple #[.agg #[v0_, .int .i64 (rd_T81 tl tf).f4], .int .i64 (wrap64 (wrap64 (24 * (rd_T81 tl tf).f0) + tf)), .bool true]) ∧ Kd.R k81 81 w' w.heap.size (fun _ => True) v0_ (tl.set tf.toNat ⟨(rd_T81 tl tf).f0, true, key, val, 0⟩) ∧ Below w.heap.size w w' := by
  have hu65 := Try.underlying65
  have HS := Aside0.mk (St.start w)
  have h2b : decide ((20 : Int) < (val.size : Int)) = false := decide_eq_false h2
  have h4b : (fr == -1) = false := beq_eq_false_iff_ne.2 h4
  go_enter Try.func46, Try.ntmps46
  go_wp2_with fail
  have h65 : w.heap.size + 1 = (w.alloc (Obj.cells #[Value.slice A l.length c, Value.int IntKind.i64 fr] 65)).heap.size := by show _ = (w.heap.push _).size; rw [Array.size_push]
  have S := (HS.out.alloc #[Value.slice A l.length c, Value.int IntKind.i64 fr] 65).alloc #[Value.slice none 0 0, Value.int IntKind.i64 0] 65
  rw [← h65] at S
  clear h65 HS
  refine (impl_isKey.calls key true _ h1).mono ?_
  rintro e w1 ⟨rfl, hb⟩
  have S := S.step hb.below
  clear hb
  have HS := Aside0.mk S
  have hc0 := S.at_cell 1 rfl 0 rfl
  have hc1 := S.at_cell 1 rfl 1 rfl
  clear S
  go_wp2_with fail
  refine (impl_ArenaOk.calls k A c l fr true _ (Kd.C_below hr HS.out.below) hc h3).mono ?_
  rintro e w2 ⟨rfl, hb⟩
  have S := HS.out.step hb
  clear hb
  clear HS
  have HS := Aside0.mk S
  clear hc0 hc1
  have hc0 := S.at_cell 1 rfl 0 rfl
  have hc1 := S.at_cell 1 rfl 1 rfl
  clear S
  go_wp2_with fail
  refine (impl_copyArena.calls A c l fr tl tf _ (Kd.C_below hr HS.out.below) hc h5).mono ?_
  rintro e w3 ⟨v3, rfl, hR, hb⟩
  obtain ⟨g3, c3, rfl, _⟩ := Kd.R_form hR (by omega)
  have S := HS.out.new_row F81.E hb hR
  clear HS hb hR hc0 hc1
  have HS := Aside0.mk S
  clear S
  go_wp2_with fail
  have S := HS.out.alloc #[Value.slice (some ⟨g3, 0, none⟩) tl.length c3, Value.int IntKind.i64 tf] 65
  refine (lay_calls w3.heap.size 0 g3 c3 65 _ tl tf key val w _ _ S rfl rfl hf0 hf1).mono ?_
  rintro e w9 ⟨rfl, S⟩
  clear HS
  have HS := Aside0.mk S
  have hc0 := S.at_cell 0 rfl 0 rfl
  have hc1 := S.at_cell 0 rfl 1 rfl
  have hd0 := S.at_cell 2 rfl 0 rfl
  have hd1 := S.at_cell 2 rfl 1 rfl
  have hz0 := S.at_frozen 2 rfl 0
  have hz1 := S.at_frozen 2 rfl 1
  clear S
  go_wp2_with fail
  have S := ((HS.out.front 2 rfl rfl).put 0 (.slice (some ⟨g3, 0, none⟩) tl.length c3) rfl).put 1 (.int .i64 (rd_T81 tl tf).f4) rfl
  clear HS hc0 hc1 hd0 hd1 hz0 hz1
  refine bodyPost_ret (results_ctt rfl _ _ _ 65 #[.slice (some ⟨g3, 0, none⟩) tl.length c3, .int .i64 (rd_T81 tl tf).f4] (0, 0) _ rfl S.head.2 Try.underlying65 rfl (by kernel_rfl)) rfl ?_
  exact ⟨_, rfl, zR (S.at_R 2 rfl) (fun _ _ => trivial), S.below⟩
def impl_Lay.f (k : Nat) (l : List S81) (fr : Int) (key val : ByteArray) : Option (List S81 × Int × Int × Bool) :=
  (impl_isKey.f key).bind fun a => if a = true then (if (val.size : Int) > 20 then some ([], 0, 0, false) else ((impl_ArenaOk.f k l fr).bind fun b => if b = true then (if fr = -1 then some ([], 0, 0, false) else ((impl_copyArena.f l fr).bind fun t => if 0 ≤ t.2 ∧ t.2 < (t.1.length : Int) then some (t.1.set t.2.toNat ⟨(rd_T81 t.1 t.2).f0, true, key, val, 0⟩, (rd_T81 t.1 t.2).f4, wrap64 (wrap64 (24 * (rd_T81 t.1 t.2).f0) + t.2), true) else none)) else some ([], 0, 0, false))) else some ([], 0, 0, false)
theorem impl_Lay.mono : ∀ a0 a1 a2 a3 k, LeO (impl_Lay.f k a0 a1 a2 a3) (impl_Lay.f (k + 1) a0 a1 a2 a3) := by
  intro a0 a1 a2 a3 k
  unfold impl_Lay.f
  repeat' first
     |(with_reducible exact impl_ArenaOk.mono _ _ _)
     |(with_reducible exact LeO.refl _)
     |(with_reducible refine LeO.ite ?_ ?_)
     |(with_reducible refine LeO.bind ?_ (fun _ => ?_))
theorem impl_Lay.calls (k : Nat) (A0_0 : Option Addr) (c0_0 : Nat) (l0_0 : List S81) (a0_1 : Int) (a1 a2 : ByteArray) (r1 : List S81) (r2 r3 : Int) (r4 : Bool) (w : World) (hr0_0 : Kd.C k81 w A0_0 l0_0.length l0_0) (hc0_0 : l0_0.length ≤ c0_0) (h : impl_Lay.f k l0_0 a0_1 a1 a2 = some (r1, r2, r3, r4)) :
    Calls Try.prog 46 #[.agg #[.slice A0_0 l0_0.length c0_0, .int .i64 a0_1], .string a1, .string a2] w fun e w' => ∃ v0_ : Value, e = .returned (.tuple #[.agg #[v0_, .int .i64 r2], .int .i64 r3, .bool r4]) ∧ Kd.R k81 81 w' w.heap.size (fun _ => True) v0_ r1 ∧ Below w.heap.size w w' := by
  have zz : ∀ {x : Option (List S81 × Int × Int × Bool)} {y1 y2 y3 y4}, x = some (y1, y2, y3, y4) → x = some (r1, r2, r3, r4) → r1 = y1 ∧ r2 = y2 ∧ r3 = y3 ∧ r4 = y4 := fun e1 e2 => by
    have e := Option.some.inj (e1.symm.trans e2)
    simp only [Prod.mk.injEq] at e
    exact ⟨e.1.symm, e.2.1.symm, e.2.2.1.symm, e.2.2.2.symm⟩
  unfold impl_Lay.f at h
  obtain ⟨a, h1, h⟩ := Option.bind_eq_some_iff.mp h
  cases a with
 |false =>
    rw [if_neg (by simp)] at h
    obtain ⟨rfl, rfl, rfl, rfl⟩ := zz rfl h
    exact lay_zero1 k A0_0 c0_0 l0_0 a0_1 a1 a2 w hr0_0 hc0_0 h1
 |true =>
    rw [if_pos rfl] at h
    by_cases h2 : (a2.size : Int) > 20
    · rw [if_pos h2] at h
      obtain ⟨rfl, rfl, rfl, rfl⟩ := zz rfl h
      exact lay_zero2 k A0_0 c0_0 l0_0 a0_1 a1 a2 w hr0_0 hc0_0 h1 h2
    rw [if_neg h2] at h
    obtain ⟨b, h3, h⟩ := Option.bind_eq_some_iff.mp h
    cases b with
   |false =>
      rw [if_neg (by simp)] at h
      obtain ⟨rfl, rfl, rfl, rfl⟩ := zz rfl h
      exact lay_zero3 k A0_0 c0_0 l0_0 a0_1 a1 a2 w hr0_0 hc0_0 h1 h2 h3
   |true =>
      rw [if_pos rfl] at h
      by_cases h4 : a0_1 = -1
      · rw [if_pos h4] at h
        obtain ⟨rfl, rfl, rfl, rfl⟩ := zz rfl h
        exact lay_zero4 k A0_0 c0_0 l0_0 a0_1 a1 a2 w hr0_0 hc0_0 h1 h2 h3 h4
      rw [if_neg h4] at h
      obtain ⟨⟨tl, tf⟩, h5, h⟩ := Option.bind_eq_some_iff.mp h
      by_cases h6 : 0 ≤ tf ∧ tf < (tl.length : Int)
      case neg => rw [if_neg h6] at h; cases h
      rw [if_pos h6] at h
      obtain ⟨rfl, rfl, rfl, rfl⟩ := zz rfl h
      exact lay_main k A0_0 c0_0 l0_0 a0_1 a1 a2 w hr0_0 hc0_0 h1 h2 h3 h4 tl tf h5 h6.1 h6.2

/-- A state of type 119 at block g of W; what its slices lead to came in by w0. -/
def IsS119 (w0 W : World) (g : Nat) (f0 : List Int) (f1 : Int) (f2 : Int) : Prop := ∃ A0 c0, W.heap[g]? = some (.cells #[.slice A0 f0.length c0, .int .i64 f1, .int .i64 f2] 119 (0, 0)) ∧ w0.heap.size ≤ g ∧ Kd.C (Kd.int .u8) w0 A0 f0.length f0
theorem IsS119.grown {w0 W : World} {g : Nat} {f0 : List Int} {f1 : Int} {f2 : Int} {W1 : World} {row : Option Nat} (h : IsS119 w0 W g f0 f1 f2) (hw : W.grownBy W1 row) (hne : some g ≠ row) : IsS119 w0 W1 g f0 f1 f2 := by
  obtain ⟨A0, c0, hb, hg, hr0⟩ := h
  exact ⟨A0, c0, blk_grown hb hw hne, hg, hr0⟩
theorem IsS119.own_neN {w0 W : World} {g : Nat} {f0 : List Int} {f1 : Int} {f2 : Int} {α : Type} {d : Kd α} {e : Nat} {base : Nat} {ok : Nat → Prop} {v : Value} {xs : List α} (h : IsS119 w0 W g f0 f1 f2) (ho : Kd.N d e W base ok v xs) (ht : e ≠ 119) : some g ≠ v.ownBlock := by
  obtain ⟨A0, c0, hb, hg, hr0⟩ := h
  exact Kd.N_ne ho hb ht
theorem IsS119.fresh {w0 W : World} {g : Nat} {f0 : List Int} {f1 : Int} {f2 : Int} (h : IsS119 w0 W g f0 f1 f2) : ∀ k, W.heap.size ≤ k → k ≠ g := by
  obtain ⟨A0, c0, hb, hg, hr0⟩ := h
  exact Kd.freshB hb
theorem IsS119.kept {w0 W : World} {g : Nat} {f0 : List Int} {f1 : Int} {f2 : Int} {W1 : World} {S : Nat → Prop} (h : IsS119 w0 W g f0 f1 f2) (hk : Kept W W1 S) (hne : ¬ S g) : IsS119 w0 W1 g f0 f1 f2 := by
  obtain ⟨A0, c0, hb, hg, hr0⟩ := h
  exact ⟨A0, c0, blk_kept hb hk hne, hg, hr0⟩
theorem IsS119.below {w0 W : World} {g : Nat} {f0 : List Int} {f1 : Int} {f2 : Int} {W1 : World} (h : IsS119 w0 W g f0 f1 f2) (hw : Below W.heap.size W W1) : IsS119 w0 W1 g f0 f1 f2 := h.grown (grown_of_below hw none) (by simp)
theorem IsS119.alloc {w0 W : World} {g : Nat} {f0 : List Int} {f1 : Int} {f2 : Int} (h : IsS119 w0 W g f0 f1 f2) (o : Obj) : IsS119 w0 (W.alloc o) g f0 f1 f2 := h.below (zI (Below.refl _ _) o)
theorem IsS119.drewN {w0 W : World} {g : Nat} {f0 : List Int} {f1 : Int} {f2 : Int} (h : IsS119 w0 W g f0 f1 f2) (m : Nat) : IsS119 w0 (W.drewN m) g f0 f1 f2 := h
theorem IsS119.drew {w0 W : World} {g : Nat} {f0 : List Int} {f1 : Int} {f2 : Int} (h : IsS119 w0 W g f0 f1 f2) : IsS119 w0 W.drew g f0 f1 f2 := h
theorem IsS119.at_ {w0 W : World} {g : Nat} {f0 : List Int} {f1 : Int} {f2 : Int} {w' : World} {m : Nat} (hq : W.drewN m = w') (h : IsS119 w0 W g f0 f1 f2) : IsS119 w0 w' g f0 f1 f2 := by subst hq; exact IsS119.drewN h m
theorem IsS119.apart {w0 W : World} {g : Nat} {f0 : List Int} {f1 : Int} {f2 : Int} {α : Type} {d : Kd α} {e : Nat} {base : Nat} {ok : Nat → Prop} {v : Value} {xs : List α} (h : IsS119 w0 W g f0 f1 f2) (ho : d.R e W base ok v xs) (ht : ∀ q, q ∈ e :: d.E → q ≠ 119) : d.R e W base (fun k => ok k ∧ k ≠ g) v xs := by
  obtain ⟨A0, c0, hb, hg, hr0⟩ := h
  exact zQ ho hb ht
theorem IsS119.own_ne {w0 W : World} {g : Nat} {f0 : List Int} {f1 : Int} {f2 : Int} {α : Type} {d : Kd α} {e : Nat} {base : Nat} {ok : Nat → Prop} {v : Value} {xs : List α} (h : IsS119 w0 W g f0 f1 f2) (ho : d.R e W base ok v xs) (ht : e ≠ 119) : some g ≠ v.ownBlock := by
  obtain ⟨A0, c0, hb, hg, hr0⟩ := h
  exact Kd.R_ne ho hb ht
theorem IsS119.apartQ {w0 W : World} {g : Nat} {f0 : List Int} {f1 : Int} {f2 : Int} {α : Type} {d : Kd α} {e : Nat} {base : Nat} {ok : Nat → Prop} {v : Value} {xs : List α} (h : IsS119 w0 W g f0 f1 f2) (ho : d.Q e W base ok v xs) (ht : ∀ q, q ∈ e :: d.E → q ≠ 119) : d.Q e W base (fun k => ok k ∧ k ≠ g) v xs := by
  obtain ⟨A0, c0, hb, hg, hr0⟩ := h
  exact Kd.Q_types ho hb ht
theorem IsS119.own_neQ {w0 W : World} {g : Nat} {f0 : List Int} {f1 : Int} {f2 : Int} {α : Type} {d : Kd α} {e : Nat} {base : Nat} {ok : Nat → Prop} {v : Value} {xs : List α} (h : IsS119 w0 W g f0 f1 f2) (ho : d.Q e W base ok v xs) (ht : e ≠ 119) : some g ≠ v.ownBlock := by
  obtain ⟨A0, c0, hb, hg, hr0⟩ := h
  exact Kd.Q_ne ho hb ht
theorem IsS119.apartS {w0 W : World} {g : Nat} {f0 : List Int} {f1 : Int} {f2 : Int} {α : Type} {d : Kd α} {e : Nat} {base : Nat} {ok : Nat → Prop} {v : Value} {xs : List α} (h : IsS119 w0 W g f0 f1 f2) (ho : d.S e W base ok v xs) (ht : ∀ q, q ∈ e :: d.E → q ≠ 119) : d.S e W base (fun k => ok k ∧ k ≠ g) v xs := by
  obtain ⟨A0, c0, hb, hg, hr0⟩ := h
  exact Kd.S_types ho hb ht
theorem IsS119.own_neS {w0 W : World} {g : Nat} {f0 : List Int} {f1 : Int} {f2 : Int} {α : Type} {d : Kd α} {e : Nat} {base : Nat} {ok : Nat → Prop} {v : Value} {xs : List α} (h : IsS119 w0 W g f0 f1 f2) (ho : d.S e W base ok v xs) (ht : e ≠ 119) : some g ≠ v.ownBlock := by
  obtain ⟨A0, c0, hb, hg, hr0⟩ := h
  exact Kd.S_ne ho hb ht
theorem IsS119.lt {w0 W : World} {g : Nat} {f0 : List Int} {f1 : Int} {f2 : Int} (h : IsS119 w0 W g f0 f1 f2) : g < W.heap.size := by
  obtain ⟨A0, c0, hb, hg, hr0⟩ := h
  exact blk_lt hb
theorem IsS119.ge {w0 W : World} {g : Nat} {f0 : List Int} {f1 : Int} {f2 : Int} (h : IsS119 w0 W g f0 f1 f2) : w0.heap.size ≤ g := by
  obtain ⟨A0, c0, hb, hg, hr0⟩ := h
  exact hg
theorem IsS119.ne_blk {w0 W : World} {g : Nat} {f0 : List Int} {f1 : Int} {f2 : Int} {a : Nat} {cs : Array Value} {t : TypeId} {fr : Nat × Nat} (h : IsS119 w0 W g f0 f1 f2) (hb2 : W.heap[a]? = some (.cells cs t fr)) (ht : t ≠ 119) : g ≠ a := by
  obtain ⟨A0, c0, hb, hg, hr0⟩ := h
  rintro rfl
  rw [hb] at hb2
  injection hb2 with hb2
  injection hb2 with _ ht2
  exact ht ht2.symm
theorem IsS119.far {w0 W : World} {g : Nat} {f0 : List Int} {f1 : Int} {f2 : Int} {p : Addr} (h : IsS119 w0 W g f0 f1 f2) (hne : g ≠ p.block) (u : Value) : IsS119 w0 (W.setCell p u) g f0 f1 f2 := by
  obtain ⟨A0, c0, hb, hg, hr0⟩ := h
  exact ⟨A0, c0, zT hb hne u, hg, hr0⟩
theorem cellS119_0 {W : World} {g : Nat} {A0 : Option Addr} {c0 : Nat} {f0 : List Int} {f1 : Int} {f2 : Int} (h : W.heap[g]? = some (.cells #[.slice A0 f0.length c0, .int .i64 f1, .int .i64 f2] 119 (0, 0))) : W.cell? ⟨g, 0, none⟩ = some (.slice A0 f0.length c0) := (zO h 0).trans rfl
theorem cellS119_1 {W : World} {g : Nat} {A0 : Option Addr} {c0 : Nat} {f0 : List Int} {f1 : Int} {f2 : Int} (h : W.heap[g]? = some (.cells #[.slice A0 f0.length c0, .int .i64 f1, .int .i64 f2] 119 (0, 0))) : W.cell? ⟨g, 1, none⟩ = some (.int .i64 f1) := (zO h 1).trans rfl
theorem IsS119.set_1 {w0 W : World} {g : Nat} {f0 : List Int} {f1 : Int} {f2 : Int} (h : IsS119 w0 W g f0 f1 f2) (x : Int) : IsS119 w0 (W.setCell ⟨g, 1, none⟩ (.int .i64 x)) g f0 x f2 := by
  obtain ⟨A0, c0, hb, hg, hr0⟩ := h
  exact ⟨A0, c0, by simpa using blk_set hb 1 (.int .i64 x), hg, hr0⟩
theorem cellS119_2 {W : World} {g : Nat} {A0 : Option Addr} {c0 : Nat} {f0 : List Int} {f1 : Int} {f2 : Int} (h : W.heap[g]? = some (.cells #[.slice A0 f0.length c0, .int .i64 f1, .int .i64 f2] 119 (0, 0))) : W.cell? ⟨g, 2, none⟩ = some (.int .i64 f2) := (zO h 2).trans rfl
theorem IsS119.set_2 {w0 W : World} {g : Nat} {f0 : List Int} {f1 : Int} {f2 : Int} (h : IsS119 w0 W g f0 f1 f2) (x : Int) : IsS119 w0 (W.setCell ⟨g, 2, none⟩ (.int .i64 x)) g f0 f1 x := by
  obtain ⟨A0, c0, hb, hg, hr0⟩ := h
  exact ⟨A0, c0, by simpa using blk_set hb 2 (.int .i64 x), hg, hr0⟩
theorem IsS119.new (w0 W : World) (A0 : Option Addr) (c0 : Nat) (f0 : List Int) (f1 : Int) (f2 : Int) (hB : Below w0.heap.size w0 W) (hr0 : Kd.C (Kd.int .u8) w0 A0 f0.length f0) : IsS119 w0 (W.alloc (.cells #[.slice A0 f0.length c0, .int .i64 f1, .int .i64 f2] 119)) W.heap.size f0 f1 f2 := ⟨A0, c0, by simpa using heap_alloc_new W _, hB.size, hr0⟩

/-! ### spec_l01New: function 72 -/
def spec_l01New.l0 : Nat → List Int → Int → Int → Option (List Int × Int × Int)
 |0, _, _, _ => none
 |k + 1, x0, x3, x4 => if x4 < (x0.length : Int) then (if x4 < 4000 then (if 0 ≤ x4 then (spec_l01New.l0 k x0 (Go.bits .and .i64 (wrap64 ((wrap64 ((wrap64 (x3 * 131)) + (wrap64 (rd x0 x4)))) + 7)) 1073741823) (wrap64 (x4 + 1))) else (none)) else (some (x0, 0, x3))) else (some (x0, 0, x3))
def spec_l01New.f (k : Nat) (l0 : List Int) : Option (List Int × Int × Int) := spec_l01New.l0 k l0 (wrap64 (14301 + (l0.length : Int))) 0
theorem spec_l01New.mono_l : ∀ k, (∀ y0 y1 y2, LeO (spec_l01New.l0 k y0 y1 y2) (spec_l01New.l0 (k + 1) y0 y1 y2))
 |0 => fun _ _ _ r h => by simp [spec_l01New.l0] at h
 |k + 1 => by
    have ih0 := spec_l01New.mono_l k
    · intro y0 y1 y2
      unfold spec_l01New.l0
      repeat' first
     |(with_reducible exact ih0 _ _ _)
     |(with_reducible exact LeO.refl _)
     |(with_reducible exact LeO.none _)
     |(with_reducible refine LeO.ite ?_ ?_)
     |(with_reducible refine LeO.bind ?_ (fun _ => ?_))
     |exact ih0 _ _ _
     |exact LeO.none _
     |refine LeO.ite ?_ ?_
     |refine LeO.bind ?_ (fun _ => ?_)
theorem spec_l01New.mono : ∀ a0 k, LeO (spec_l01New.f k a0) (spec_l01New.f (k + 1) a0) := by
  intro a0 k
  have ih0 := spec_l01New.mono_l k
  unfold spec_l01New.f
  repeat' first
     |(with_reducible exact ih0 _ _ _)
     |(with_reducible exact LeO.refl _)
     |(with_reducible exact LeO.none _)
     |(with_reducible refine LeO.ite ?_ ?_)
     |(with_reducible refine LeO.bind ?_ (fun _ => ?_))
     |exact ih0 _ _ _
     |exact LeO.none _
     |refine LeO.ite ?_ ?_
     |refine LeO.bind ?_ (fun _ => ?_)
set_option maxHeartbeats 8000000 in
set_option maxRecDepth 100000 in
theorem spec_l01New.calls (k : Nat) (A0 : Option Addr) (c0 : Nat) (l0 : List Int) (r1 : List Int) (r2 : Int) (r3 : Int) (w0 w : World) (hB : Below w0.heap.size w0 w) (hr0 : Kd.C (Kd.int .u8) w0 A0 l0.length l0) (hc0 : l0.length ≤ c0) (h : spec_l01New.f k l0 = some (r1, r2, r3)) :
    Calls Try.prog 72 #[.slice A0 l0.length c0] w fun e w' => ∃ g_ : Nat, e = .returned (.pointer (some ⟨g_, 0, none⟩)) ∧ IsS119 w0 w' g_ r1 r2 r3 ∧ Below w0.heap.size w0 w' ∧ Below w.heap.size w w' := by
  have hu119 := Try.underlying119
  have HR0 := Aside0.mk hr0
  have HC0 := Aside0.mk hc0
  clear hr0 hc0
  have HBW := Aside0.mk (Below.refl w.heap.size w)
  have HW0 := Aside0.mk hB.size
  have HB := Aside0.mk hB
  clear hB
  have H : (spec_l01New.l0 k l0 (wrap64 (14301 + (l0.length : Int))) 0) = some (r1, r2, r3) := h
  clear h
  have H' := Aside0.mk H
  clear H
  go_enter Try.func72, Try.ntmps72
  go_wp2
  go_loopg [3, 4] k (fun kq v3 v4 w' => ∃ (x3_1 : Int) (x4_1 : Int), v3 = .int .i64 x3_1 ∧ v4 = .int .i64 x4_1 ∧ Aside0 (spec_l01New.l0 kq l0 x3_1 x4_1 = some (r1, r2, r3)) ∧ Aside0 (kq ≤ k) ∧ Aside0 (Below w0.heap.size w0 w') ∧ Aside0 (Below w.heap.size w w'))
  case atStart => exact ⟨(wrap64 (14301 + (l0.length : Int))), (0), (by first|rfl|(simp; done)|(simp [*]; done)), (by first|rfl|(simp; done)|(simp [*]; done)), H', ⟨Nat.le_refl _⟩, ⟨by repeat (first|(with_reducible first|exact HB.out|apply zI|apply zG|apply zH)|exact HB.out)⟩, ⟨by repeat (first|(with_reducible first|exact HBW.out|apply zI|apply zG|apply zH)|exact HBW.out)⟩⟩
  case round =>
    clear H' HBW
    obtain ⟨x3_1, x4_1, rfl, rfl, HA, HK1, HB, HBW⟩ := hrel
    cases gk with
   |zero => exact absurd HA.out (by simp [spec_l01New.l0])
   |succ k1 =>
      have H := HA.out
      clear HA
      simp only [spec_l01New.l0] at H
      by_cases c2 : x4_1 < (l0.length : Int)
      · rw [if_pos c2] at H
        have c2b0 : decide (x4_1 < (l0.length : Int)) = true := decide_eq_true c2
        clear c2
        by_cases c3 : x4_1 < 4000
        · rw [if_pos c3] at H
          have c3b0 : decide (x4_1 < 4000) = true := decide_eq_true c3
          clear c3
          by_cases c4 : 0 ≤ x4_1
          · rw [if_pos c4] at H
            have c4b0 : decide (0 ≤ x4_1) = true := decide_eq_true c4
            clear c4
            have H' := Aside0.mk H
            clear H
            have p127 : 0 ≤ (x4_1 : Int) := of_decide_eq_true (by first|(with_reducible assumption)|assumption)
            have q127 : x4_1 < (l0.length : Int) := of_decide_eq_true (by first|(with_reducible assumption)|assumption)
            obtain ⟨ad127, e127, hx127_0⟩ := Kd.at_int HR0.out x4_1 p127 q127
            cases e127
            replace hx127_0 := pw_cell_below HB.out hx127_0
            replace p127 := eq_true p127
            replace q127 := eq_true q127
            go_wp2
            go_roundg k1
            case measure => have := HK1.out; omega
            case rel => exact ⟨(Go.bits .and .i64 (wrap64 ((wrap64 ((wrap64 (x3_1 * 131)) + (wrap64 (rd l0 x4_1)))) + 7)) 1073741823), (wrap64 (x4_1 + 1)), (by first|rfl|(simp; done)|(simp [*]; done)), (by first|rfl|(simp; done)|(simp [*]; done)), H', ⟨by have := HK1.out; omega⟩, ⟨by repeat (first|(with_reducible first|exact HB.out|apply zI|apply zG|apply zH)|exact HB.out)⟩, ⟨by repeat (first|(with_reducible first|exact HBW.out|apply zI|apply zG|apply zH)|exact HBW.out)⟩⟩
          · rw [if_neg c4] at H
            exact absurd H (by simp)
        · rw [if_neg c3] at H
          have c3b0 : decide (x4_1 < 4000) = false := decide_eq_false c3
          clear c3
          simp only [Option.some.injEq, Prod.mk.injEq] at H
          obtain ⟨rfl, rfl, rfl⟩ := H
          go_wp2_with (first|((with_reducible refine gate_dst (N := 31) rfl ?_); refine box_event ?hg (N := 31) ?hd (cs := #[.slice A0 l0.length c0, .int .i64 0, .int .i64 x3_1]) (t := 119) ?hr ?_; (case hd => rfl); (case hg => rfl); (case hr => first|(go_simp; done)|(go_simp; rfl)); intro gb128 hg w5 hbox hb; have n0_ := Aside0.mk (zN HBW.out hb); have n1_ := Aside0.mk (zN (by repeat (first|(with_reducible first|exact HB.out|apply zI|apply zG|apply zH)|exact HB.out)) hb); have n2_ := Aside0.mk (hbox); have n3_ := Aside0.mk ((by rw [hg]; exact (below_size (by repeat (first|(with_reducible first|exact HBW.out|apply zI|apply zG|apply zH)|exact HBW.out))) : w.heap.size ≤ gb128)); have n4_ := Aside0.mk ((Nat.le_trans HW0.out (by rw [hg]; exact (below_size (by repeat (first|(with_reducible first|exact HBW.out|apply zI|apply zG|apply zH)|exact HBW.out))) : w.heap.size ≤ gb128) : w0.heap.size ≤ gb128)); clear HBW; clear HB; have HBW := n0_; have HB := n1_; have BK128 := n2_; have GW128 := n3_; have GE128 := n4_; clear n0_ n1_ n2_ n3_ n4_; clear hb hbox hg))
          go_ret
          exact ⟨_, rfl, (show IsS119 w0 _ gb128 l0 0 x3_1 from ⟨_, _, by (with_reducible repeat (first|refine zA ?_ _|refine zC ?_|refine zB ?_ _)); exact BK128.out, GE128.out, HR0.out⟩), by repeat (first|(with_reducible first|exact HB.out|apply zI|apply zG|apply zH|refine zJ ?_ GE128.out)|exact HB.out), by repeat (first|(with_reducible first|exact HBW.out|apply zI|apply zG|apply zH|refine zJ ?_ GW128.out)|exact HBW.out)⟩
      · rw [if_neg c2] at H
        have c2b0 : decide (x4_1 < (l0.length : Int)) = false := decide_eq_false c2
        clear c2
        simp only [Option.some.injEq, Prod.mk.injEq] at H
        obtain ⟨rfl, rfl, rfl⟩ := H
        go_wp2_with (first|((with_reducible refine gate_dst (N := 31) rfl ?_); refine box_event ?hg (N := 31) ?hd (cs := #[.slice A0 l0.length c0, .int .i64 0, .int .i64 x3_1]) (t := 119) ?hr ?_; (case hd => rfl); (case hg => rfl); (case hr => first|(go_simp; done)|(go_simp; rfl)); intro gb129 hg w6 hbox hb; have n0_ := Aside0.mk (zN HBW.out hb); have n1_ := Aside0.mk (zN (by repeat (first|(with_reducible first|exact HB.out|apply zI|apply zG|apply zH)|exact HB.out)) hb); have n2_ := Aside0.mk (hbox); have n3_ := Aside0.mk ((by rw [hg]; exact (below_size (by repeat (first|(with_reducible first|exact HBW.out|apply zI|apply zG|apply zH)|exact HBW.out))) : w.heap.size ≤ gb129)); have n4_ := Aside0.mk ((Nat.le_trans HW0.out (by rw [hg]; exact (below_size (by repeat (first|(with_reducible first|exact HBW.out|apply zI|apply zG|apply zH)|exact HBW.out))) : w.heap.size ≤ gb129) : w0.heap.size ≤ gb129)); clear HBW; clear HB; have HBW := n0_; have HB := n1_; have BK129 := n2_; have GW129 := n3_; have GE129 := n4_; clear n0_ n1_ n2_ n3_ n4_; clear hb hbox hg))
        go_ret
        exact ⟨_, rfl, (show IsS119 w0 _ gb129 l0 0 x3_1 from ⟨_, _, by (with_reducible repeat (first|refine zA ?_ _|refine zC ?_|refine zB ?_ _)); exact BK129.out, GE129.out, HR0.out⟩), by repeat (first|(with_reducible first|exact HB.out|apply zI|apply zG|apply zH|refine zJ ?_ GE129.out)|exact HB.out), by repeat (first|(with_reducible first|exact HBW.out|apply zI|apply zG|apply zH|refine zJ ?_ GW129.out)|exact HBW.out)⟩

/-! ### spec_l01Byte: function 111 -/
def spec_l01Byte.f (s0_0 : List Int) (s0_1 : Int) (s0_2 : Int) : Option (Int × Int × Int) := if s0_1 < (s0_0.length : Int) then (if 0 ≤ s0_1 then (some (Go.bits .and .i64 (wrap64 ((Go.bits .and .i64 (Go.bits .xor .i64 ((wrap64 ((wrap64 (s0_2 * 6364136223846793005)) + 1442695040888963407)) / 8589934592) ((wrap64 ((wrap64 (s0_2 * 6364136223846793005)) + 1442695040888963407)) / 35184372088832)) 255) + (wrap64 (rd s0_0 s0_1)))) 255, wrap64 (s0_1 + 1), wrap64 ((wrap64 (s0_2 * 6364136223846793005)) + 1442695040888963407))) else (none)) else (some (Go.bits .and .i64 (Go.bits .xor .i64 ((wrap64 ((wrap64 (s0_2 * 6364136223846793005)) + 1442695040888963407)) / 8589934592) ((wrap64 ((wrap64 (s0_2 * 6364136223846793005)) + 1442695040888963407)) / 35184372088832)) 255, s0_1, wrap64 ((wrap64 (s0_2 * 6364136223846793005)) + 1442695040888963407)))
set_option maxHeartbeats 8000000 in
set_option maxRecDepth 100000 in
theorem spec_l01Byte.calls (g : Nat) (s0_0 : List Int) (s0_1 : Int) (s0_2 : Int) (r1 : Int) (r2 : Int) (r3 : Int) (w0 w : World) (hI : IsS119 w0 w g s0_0 s0_1 s0_2) (hB : Below w0.heap.size w0 w) (h : spec_l01Byte.f s0_0 s0_1 s0_2 = some (r1, r2, r3)) :
    Calls Try.prog 111 #[.pointer (some ⟨g, 0, none⟩)] w fun e w' => e = .returned (.int .i64 r1) ∧ IsS119 w0 w' g s0_0 r2 r3 ∧ Below w0.heap.size w0 w' ∧ KeepBut w w' g none := by
  have HI0 := Aside0.mk hI
  have HK := Aside0.mk (KeepBut.refl w g none)
  have HL := Aside0.mk hB.size
  clear hI
  have HW0 := Aside0.mk hB.size
  have HB := Aside0.mk hB
  clear hB
  have H : (if s0_1 < (s0_0.length : Int) then (if 0 ≤ s0_1 then (some (Go.bits .and .i64 (wrap64 ((Go.bits .and .i64 (Go.bits .xor .i64 ((wrap64 ((wrap64 (s0_2 * 6364136223846793005)) + 1442695040888963407)) / 8589934592) ((wrap64 ((wrap64 (s0_2 * 6364136223846793005)) + 1442695040888963407)) / 35184372088832)) 255) + (wrap64 (rd s0_0 s0_1)))) 255, wrap64 (s0_1 + 1), wrap64 ((wrap64 (s0_2 * 6364136223846793005)) + 1442695040888963407))) else (none)) else (some (Go.bits .and .i64 (Go.bits .xor .i64 ((wrap64 ((wrap64 (s0_2 * 6364136223846793005)) + 1442695040888963407)) / 8589934592) ((wrap64 ((wrap64 (s0_2 * 6364136223846793005)) + 1442695040888963407)) / 35184372088832)) 255, s0_1, wrap64 ((wrap64 (s0_2 * 6364136223846793005)) + 1442695040888963407)))) = some (r1, r2, r3) := h
  clear h
  by_cases c2 : s0_1 < (s0_0.length : Int)
  · rw [if_pos c2] at H
    have c2b0 : decide (s0_1 < (s0_0.length : Int)) = true := decide_eq_true c2
    clear c2
    by_cases c3 : 0 ≤ s0_1
    · rw [if_pos c3] at H
      have c3b0 : decide (0 ≤ s0_1) = true := decide_eq_true c3
      clear c3
      simp only [Option.some.injEq, Prod.mk.injEq] at H
      obtain ⟨rfl, rfl, rfl⟩ := H
      obtain ⟨ASz4_0, cSz4_0, HGz4, hgz4, HSz4_0⟩ := HI0.out
      have hcz4_0 := cellS119_0 HGz4
      have hcz4_1 := cellS119_1 HGz4
      have hcz4_2 := cellS119_2 HGz4
      have hfz4_1 := zP HGz4 1
      have hfz4_2 := zP HGz4 2
      clear HGz4 hgz4
      have p130 : 0 ≤ (s0_1 : Int) := of_decide_eq_true (by first|(with_reducible assumption)|assumption)
      have q130 : s0_1 < (s0_0.length : Int) := of_decide_eq_true (by first|(with_reducible assumption)|assumption)
      obtain ⟨ad130, e130, hx130_0⟩ := Kd.at_int HSz4_0 s0_1 p130 q130
      cases e130
      have hn130_0 : ad130.block ≠ g := Nat.ne_of_lt (Nat.lt_of_lt_of_le (by have := World.block_lt_of_cell? _ _ hx130_0; first|rwa [add_block] at this|exact this) (IsS119.ge HI0.out))
      replace hx130_0 := pw_cell_below HB.out hx130_0
      replace hx130_0 := (cell_far (p := ⟨g, 2, none⟩) (by first|(rw [add_block]; exact hn130_0)|(show (Addr.add _ _).block ≠ _; rw [add_block]; exact hn130_0)|exact hn130_0) (.int .i64 (wrap64 ((wrap64 (s0_2 * 6364136223846793005)) + 1442695040888963407)))).trans hx130_0
      (try have hy130_0 := fun (n_ : Nat) => (show (((w.drewN n_).setCell ⟨g, 2, none⟩ (.int .i64 (wrap64 ((wrap64 (s0_2 * 6364136223846793005)) + 1442695040888963407))))).cell? _ = some _ from hx130_0))
      clear hn130_0
      replace p130 := eq_true p130
      replace q130 := eq_true q130
      go_enter Try.func111, Try.ntmps111
      go_wp2
      repeat (go_quiet (fail); try go_wp2)
      go_ret
      exact ⟨by first|rfl|(simp [errW_none, errW_some] <;> rfl)|(simp [*, errW_none, errW_some] <;> rfl), by repeat (first|(with_reducible first|exact HI0.out|apply IsS119.alloc|apply IsS119.drewN|apply IsS119.drew|apply IsS119.set_1|apply IsS119.set_2)|exact HI0.out), by repeat (first|(with_reducible first|exact HB.out|apply zI|apply zG|apply zH|refine zJ ?_ (IsS119.ge HI0.out))|exact HB.out), by repeat (first|(with_reducible first|exact HK.out|apply KeepBut.set_|apply keep_drewN|apply keep_drew|apply keep_alloc)|exact HK.out)⟩
    · rw [if_neg c3] at H
      exact absurd H (by simp)
  · rw [if_neg c2] at H
    have c2b0 : decide (s0_1 < (s0_0.length : Int)) = false := decide_eq_false c2
    clear c2
    simp only [Option.some.injEq, Prod.mk.injEq] at H
    obtain ⟨rfl, rfl, rfl⟩ := H
    obtain ⟨ASz5_0, cSz5_0, HGz5, hgz5, HSz5_0⟩ := HI0.out
    have hcz5_0 := cellS119_0 HGz5
    have hcz5_1 := cellS119_1 HGz5
    have hcz5_2 := cellS119_2 HGz5
    have hfz5_1 := zP HGz5 1
    have hfz5_2 := zP HGz5 2
    clear HGz5 hgz5
    go_enter Try.func111, Try.ntmps111
    go_wp2
    repeat (go_quiet (fail); try go_wp2)
    go_ret
    exact ⟨by first|rfl|(simp [errW_none, errW_some] <;> rfl)|(simp [*, errW_none, errW_some] <;> rfl), by repeat (first|(with_reducible first|exact HI0.out|apply IsS119.alloc|apply IsS119.drewN|apply IsS119.drew|apply IsS119.set_1|apply IsS119.set_2)|exact HI0.out), by repeat (first|(with_reducible first|exact HB.out|apply zI|apply zG|apply zH|refine zJ ?_ (IsS119.ge HI0.out))|exact HB.out), by repeat (first|(with_reducible first|exact HK.out|apply KeepBut.set_|apply keep_drewN|apply keep_drew|apply keep_alloc)|exact HK.out)⟩

end Go.Proofs.Ytjiekmbonmbhlaa.GFnLifts
